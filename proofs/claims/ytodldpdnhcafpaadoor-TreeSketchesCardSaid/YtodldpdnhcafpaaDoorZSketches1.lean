/- The law TreeSketches of package monikerlaw holds of the given program: called with any arguments that can be read as data it returns true, and its arguments read behind the call as before. Conditions: those of the given row, no others. -/
import Derived.Test.YtodldpdnhcafpaaDoorZSketches0
import Derived.Test.YtodldpdnhcafpaaDoorRows
import Derived.ProofKit
import Derived.LaidMore
import Derived.LaidLaws
import Derived.OpenShut
import Derived.Stop.Joined
import Derived.StillTailTactics
import Derived.BigRegion
import Derived.Test.YtodldpdnhcafpaaDoorWMore
import Derived.SizedLaws
import Derived.ChangeSlices
import Derived.Deep.Slices
import Derived.ChangeArms
import Derived.JoinedCond
import Derived.Test.YtodldpdnhcafpaaDoorCards
import Derived.Test.YtodldpdnhcafpaaDoorTie
import Derived.WalkKit
import Derived.ShutString
import Derived.ChangeOld
import Derived.Below
import Derived.SevenTiedAt
import Derived.Deep.DeepHandedRow
import Derived.Lib.LaidTab
-- A text of this session's own program (wip/myprint.sh over a changed print tool): functions and their walks
namespace Go.Proofs.YtodldpdnhcafpaaDoor.F
open Go.RowKit Go.Proofs.YtodldpdnhcafpaaDoorW.PrintWords Go.Proofs.YtodldpdnhcafpaaDoorW.PrintLast Go.Proofs.YtodldpdnhcafpaaDoorW.PrintMore
attribute [local go_sem] max2_int min2_int max_two min_two max_three min_three max_four min_four   -- for this text's walks alone
set_option linter.unusedVariables false
set_option linter.unusedSimpArgs false

/-! ### monikerref4_Sketch: function 12 -/
mutual
def monikerref4_Sketch.l0 : Nat → List Int → List Int → Int → List (S43) → Option (ByteArray)
  | 0, _, _, _, _ => none
  | k + 1, x3, x4, x5, x201000 => if x5 < (x201000.length : Int) then (if 0 ≤ x5 then (if 0 ≤ ((rd_T43 x201000 x5).f0) then (if ((rd_T43 x201000 x5).f0) < 58 then (if x3.length + (rdOf ByteArray.empty tabG1 ((rd_T43 x201000 x5).f0)).size < 140737488355328 then ((some (x3 ++ bytesOf (rdOf ByteArray.empty tabG1 ((rd_T43 x201000 x5).f0)) : List Int)).bind fun y204 => (if ((rd_T43 x201000 x5).f3) > 1 then (if y204.length < 140737488355328 then (if x4.length < 17592186044416 then (monikerref4_Sketch.l0 k (y204 ++ [40]) (x4 ++ [wrap64 (x5 + ((rd_T43 x201000 x5).f3))]) (wrap64 (x5 + 1)) x201000) else (none)) else (none)) else (monikerref4_Sketch.l1 k y204 x4 x5 x201000))) else (none)) else (none)) else (none)) else (none)) else (some (strOfNums x3))
def monikerref4_Sketch.l1 : Nat → List Int → List Int → Int → List (S43) → Option (ByteArray)
  | 0, _, _, _, _ => none
  | k + 1, x3, x4, x5, x201000 => if (x4.length : Int) > 0 then (if 0 ≤ (wrap64 ((x4.length : Int) - 1)) then (if (wrap64 ((x4.length : Int) - 1)) < (x4.length : Int) then (if (rd x4 (wrap64 ((x4.length : Int) - 1))) = (wrap64 (x5 + 1)) then (if x3.length < 140737488355328 then (if (wrap64 ((x4.length : Int) - 1)) ≤ (x4.length : Int) then (monikerref4_Sketch.l1 k (x3 ++ [41]) (x4.take ((wrap64 ((x4.length : Int) - 1)) : Int).toNat) x5 x201000) else (none)) else (none)) else (if x3.length < 140737488355328 then (monikerref4_Sketch.l0 k (x3 ++ [32]) x4 (wrap64 (x5 + 1)) x201000) else (none))) else (none)) else (none)) else (monikerref4_Sketch.l0 k x3 x4 (wrap64 (x5 + 1)) x201000)
end
def monikerref4_Sketch.f (k : Nat) (l0_0 : List (S43)) : Option (ByteArray) := (monikerref4_Shaped.f k l0_0).bind fun t201 => (if t201 = true then (monikerref4_Sketch.l0 k ([] : List Int) ([] : List Int) 0 l0_0) else (some (⟨#[]⟩ : ByteArray)))
set_option maxHeartbeats 8000000 in
set_option maxRecDepth 100000 in
theorem monikerref4_Sketch.calls (k : Nat) (A0_0 : Option Addr) (c0_0 : Nat) (l0_0 : List (S43)) (r : ByteArray) (w : World) (hr0_0 : Kd.C k43 w A0_0 l0_0.length l0_0) (hc0_0 : l0_0.length ≤ c0_0) (h : monikerref4_Sketch.f k l0_0 = some r) (hs_ : SG w) :
    Calls Tryd.prog 12 #[.agg #[.slice A0_0 l0_0.length c0_0]] w fun e w' => e = .returned (.string r) ∧ Below w.heap.size w w' := by
  have hu24 := Tryd.underlying24
  have HR0_0 := Aside0.mk hr0_0
  have HC0_0 := Aside0.mk hc0_0
  clear hr0_0 hc0_0
  have HRG0 := Aside0.mk hs_.g0
  have HRG1 := Aside0.mk hs_.g1
  have HSG := Aside0.mk hs_
  clear hs_
  have HB := Aside0.mk (Below.refl w.heap.size w)
  have H : ((monikerref4_Shaped.f k l0_0).bind fun t201 => (if t201 = true then (monikerref4_Sketch.l0 k ([] : List Int) ([] : List Int) 0 l0_0) else (some (⟨#[]⟩ : ByteArray)))) = some r := h
  clear h
  replace H := Option.bind_eq_some_iff.mp H
  obtain ⟨t201, A20, H⟩ := H
  replace H : (if t201 = true then (monikerref4_Sketch.l0 k ([] : List Int) ([] : List Int) 0 l0_0) else (some (⟨#[]⟩ : ByteArray))) = some r := H
  have A2 := Aside0.mk A20
  clear A20
  by_cases c3 : t201 = true
  · subst c3
    have H1 : (monikerref4_Sketch.l0 k ([] : List Int) ([] : List Int) 0 l0_0) = some r := by rw [if_pos rfl] at H; exact H
    clear H
    have H := H1
    clear H1
    have H' := Aside0.mk H
    clear H
    go_enter Tryd.func12, Tryd.ntmps12
    go_wp2_with (first | ((with_reducible refine gate_dst (N := 1) rfl ?_); (try (refine gate_guard (by rfl) ?_; dsimp only)); refine box_event ?hg (N := 1) ?hd (cs := #[.slice A0_0 l0_0.length c0_0]) (t := 24) ?hr ?_; (case hd => rfl); (case hg => rfl); (case hr => first | (go_simp; done) | (go_simp; rfl)); intro gb200 hg w4 hbox hb; have n0_ := Aside0.mk (below_step (by repeat (first | (with_reducible first | exact HB.out | apply below_alloc | apply pw_below_drewN | apply below_drew1) | exact HB.out)) hb); have n1_ := Aside0.mk (hbox); have n2_ := Aside0.mk ((by rw [hg]; exact (below_size (by repeat (first | (with_reducible first | exact HB.out | apply below_alloc | apply pw_below_drewN | apply below_drew1) | exact HB.out))) : w.heap.size ≤ gb200)); have n3_ := Aside0.mk ((by rw [hg]; exact (below_size (by repeat (first | (with_reducible first | exact HB.out | apply below_alloc | apply pw_below_drewN | apply below_drew1) | exact HB.out))) : w.heap.size ≤ gb200)); clear HB; have HB := n0_; have BK200 := n1_; have GW200 := n2_; have GE200 := n3_; clear n0_ n1_ n2_ n3_; clear hb hbox hg; have hcz5_0 : w4.cell? ⟨gb200, 0, none⟩ = some (.slice A0_0 l0_0.length c0_0) := (blk_cell BK200.out 0).trans rfl; have hfz5_0 := blk_frozen BK200.out 0) | ((with_reducible refine gate_callee (f := 42) rfl ?_); refine goesL_ (some 7) rfl rfl Tryd.func42 (by kernel_rfl) rfl #[.agg #[.slice A0_0 l0_0.length c0_0]] rfl (by (try simp only [List.map_toArray, List.map_cons, List.map_nil]); first | done | rfl | (simp only [List.length_drop, List.length_take]; rfl)) ?_; (with_reducible refine (monikerref4_Shaped.calls k _ _ l0_0 true _ ?side1 ?side2 A2.out).mono ?_); (case side1 => repeat (first | exact (Kd.C_below HR0_0.out HB.out) | (with_reducible refine Kd.C_alloc ?_ _) | (with_reducible refine Kd.C_drewN ?_ _) | (with_reducible refine Kd.C_drew ?_))); (case side2 => exact HC0_0.out); rintro e w6 ⟨rfl, hb⟩; refine ⟨_, rfl, ?_⟩; have n0_ := Aside0.mk (blk_below (g := gb200) (o := .cells #[.slice A0_0 l0_0.length c0_0] 24 (0, 0)) (by (with_reducible repeat (first | refine blk_drewN ?_ _ | refine blk_drew ?_ | refine blk_alloc ?_ _)); exact BK200.out) hb); have n1_ := Aside0.mk (below_step (by repeat (first | (with_reducible first | exact HB.out | apply below_alloc | apply pw_below_drewN | apply below_drew1 | refine below_set ?_ GE200.out) | exact HB.out)) hb); clear BK200; clear HB; have BK200 := n0_; have HB := n1_; clear n0_ n1_; (try clear hb); (try clear hb2); (try clear hk); (try clear hi)))
    go_loopg [3, 4, 5] k (fun kq v3 v4 v5 w' => ∃ (x3_1 : List Int) (x4_1 : List Int) (x5_1 : Int), v5 = .int .i64 x5_1 ∧ Aside0 (monikerref4_Sketch.l0 kq x3_1 x4_1 x5_1 l0_0 = some r) ∧ Aside0 (kq ≤ k) ∧ Aside0 (Kd.R (Kd.int .u8) 5 w' w.heap.size (fun _ => True) v3 x3_1) ∧ Aside0 (Kd.R (Kd.int .i64) 3 w' w.heap.size (fun _ => True) v4 x4_1) ∧ Aside0 (w'.heap[gb200]? = some (.cells #[(.slice A0_0 l0_0.length c0_0)] 24 (0, 0))) ∧ Aside0 (Below w.heap.size w w'))
    case atStart => exact ⟨(([] : List Int)), (([] : List Int)), (0), (by first | rfl | (simp; done) | (simp [*]; done)), H', ⟨Nat.le_refl _⟩, ⟨by first | exact Kd.R_nil _ _ _ _ _ | exact Kd.N_nil _ _ _ _ _ | exact Kd.V_nil _ _ _ _ _ | exact Kd.Q_nil _ _ _ _ _ | exact Kd.S_nil _ _ _ _ _⟩, ⟨by first | exact Kd.R_nil _ _ _ _ _ | exact Kd.N_nil _ _ _ _ _ | exact Kd.V_nil _ _ _ _ _ | exact Kd.Q_nil _ _ _ _ _ | exact Kd.S_nil _ _ _ _ _⟩, ⟨by (with_reducible repeat (first | refine blk_drewN ?_ _ | refine blk_drew ?_ | refine blk_alloc ?_ _)); exact BK200.out⟩, ⟨by repeat (first | (with_reducible first | exact HB.out | apply below_alloc | apply pw_below_drewN | apply below_drew1 | refine below_set ?_ GE200.out) | exact HB.out)⟩⟩
    case round =>
      clear H'
      try clear c1
      try clear p2
      try clear c3
      try clear c4
      try clear hcz5_0
      try clear hfz5_0
      obtain ⟨x3_1, x4_1, x5_1, rfl, HA, HK1, HO_3, HO_4, BK200, HB⟩ := hrel
      cases gk with
      | zero => exact absurd HA.out (by simp [monikerref4_Sketch.l0])
      | succ k1 =>
        have H := HA.out
        clear HA
        simp only [monikerref4_Sketch.l0] at H
        by_cases c7 : x5_1 < (l0_0.length : Int)
        · rw [if_pos c7] at H
          have c7b0 : decide (x5_1 < (l0_0.length : Int)) = true := decide_eq_true c7
          clear c7
          by_cases c8 : 0 ≤ x5_1
          · rw [if_pos c8] at H
            have c8b0 : decide (0 ≤ x5_1) = true := decide_eq_true c8
            clear c8
            by_cases c9 : 0 ≤ ((rd_T43 l0_0 x5_1).f0)
            · rw [if_pos c9] at H
              have c9b0 : decide (0 ≤ ((rd_T43 l0_0 x5_1).f0)) = true := decide_eq_true c9
              clear c9
              by_cases c10 : ((rd_T43 l0_0 x5_1).f0) < 58
              · rw [if_pos c10] at H
                have c10b0 : decide (((rd_T43 l0_0 x5_1).f0) < 58) = true := decide_eq_true c10
                clear c10
                by_cases c11 : x3_1.length + (rdOf ByteArray.empty tabG1 ((rd_T43 l0_0 x5_1).f0)).size < 140737488355328
                · rw [if_pos c11] at H
                  have LMc11 := Aside0.mk c11
                  clear c11
                  obtain ⟨y204, hy204⟩ : ∃ y_ : List Int, y_ = (x3_1 ++ bytesOf (rdOf ByteArray.empty tabG1 ((rd_T43 l0_0 x5_1).f0))) := ⟨_, rfl⟩
                  replace H : (if ((rd_T43 l0_0 x5_1).f3) > 1 then (if y204.length < 140737488355328 then (if x4_1.length < 17592186044416 then (monikerref4_Sketch.l0 k1 (y204 ++ [40]) (x4_1 ++ [wrap64 (x5_1 + ((rd_T43 l0_0 x5_1).f3))]) (wrap64 (x5_1 + 1)) l0_0) else (none)) else (none)) else (monikerref4_Sketch.l1 k1 y204 x4_1 x5_1 l0_0)) = some r := by first | (rw [hy204]; with_reducible exact H) | (have H2_ := (Option.bind_some _ _).symm.trans H; rw [hy204]; with_reducible exact H2_) | (have H2_ := (Option.bind_some _ _).symm.trans H; with_reducible exact H2_) | with_reducible exact H | (rw [hy204]; exact H) | exact H
                  have Ny204 := Aside0.mk hy204
                  clear hy204
                  by_cases c12 : ((rd_T43 l0_0 x5_1).f3) > 1
                  · rw [if_pos c12] at H
                    have c12b0 : decide (1 < ((rd_T43 l0_0 x5_1).f3)) = true := decide_eq_true c12
                    clear c12
                    by_cases c13 : y204.length < 140737488355328
                    · rw [if_pos c13] at H
                      have LMc13 := Aside0.mk c13
                      clear c13
                      obtain ⟨y208, hy208⟩ : ∃ y_ : List Int, y_ = (y204 ++ [40]) := ⟨_, rfl⟩
                      replace H : (if x4_1.length < 17592186044416 then (monikerref4_Sketch.l0 k1 y208 (x4_1 ++ [wrap64 (x5_1 + ((rd_T43 l0_0 x5_1).f3))]) (wrap64 (x5_1 + 1)) l0_0) else (none)) = some r := by first | (rw [hy208]; with_reducible exact H) | (have H2_ := (Option.bind_some _ _).symm.trans H; rw [hy208]; with_reducible exact H2_) | (have H2_ := (Option.bind_some _ _).symm.trans H; with_reducible exact H2_) | with_reducible exact H | (rw [hy208]; exact H) | exact H
                      have Ny208 := Aside0.mk hy208
                      clear hy208
                      by_cases c14 : x4_1.length < 17592186044416
                      · rw [if_pos c14] at H
                        have LMc14 := Aside0.mk c14
                        clear c14
                        obtain ⟨y212, hy212⟩ : ∃ y_ : List Int, y_ = (x4_1 ++ [wrap64 (x5_1 + ((rd_T43 l0_0 x5_1).f3))]) := ⟨_, rfl⟩
                        replace H : (monikerref4_Sketch.l0 k1 y208 y212 (wrap64 (x5_1 + 1)) l0_0) = some r := by first | (rw [hy212]; with_reducible exact H) | (have H2_ := (Option.bind_some _ _).symm.trans H; rw [hy212]; with_reducible exact H2_) | (have H2_ := (Option.bind_some _ _).symm.trans H; with_reducible exact H2_) | with_reducible exact H | (rw [hy212]; exact H) | exact H
                        have Ny212 := Aside0.mk hy212
                        clear hy212
                        have H' := Aside0.mk H
                        clear H
                        have hcz15_0 : wr.cell? ⟨gb200, 0, none⟩ = some (.slice A0_0 l0_0.length c0_0) := (blk_cell BK200.out 0).trans rfl
                        have hfz15_0 := blk_frozen BK200.out 0
                        have p202 : 0 ≤ (x5_1 : Int) := of_decide_eq_true (by first | (with_reducible assumption) | assumption)
                        have q202 : x5_1 < (l0_0.length : Int) := of_decide_eq_true (by first | (with_reducible assumption) | assumption)
                        obtain ⟨ad202, e202, hx202_0, hx202_1, hx202_2, hx202_3⟩ := at_T43 HR0_0.out x5_1 p202 q202
                        cases e202
                        replace hx202_0 := (HB.out.cell (World.block_lt_of_cell? w _ hx202_0)).trans hx202_0
                        replace hx202_1 := (HB.out.cell (World.block_lt_of_cell? w _ hx202_1)).trans hx202_1
                        replace hx202_2 := (HB.out.cell (World.block_lt_of_cell? w _ hx202_2)).trans hx202_2
                        replace hx202_3 := (HB.out.cell (World.block_lt_of_cell? w _ hx202_3)).trans hx202_3
                        replace p202 := eq_true p202
                        replace q202 := eq_true q202
                        have p203 : 0 ≤ (((rd_T43 l0_0 x5_1).f0) : Int) := of_decide_eq_true (by first | (with_reducible assumption) | assumption)
                        have q203 : ((rd_T43 l0_0 x5_1).f0) < (58 : Int) := of_decide_eq_true (by first | (with_reducible assumption) | assumption)
                        obtain ⟨ad203, e203, hx203_0⟩ := Kd.at_string HRG1.out ((rd_T43 l0_0 x5_1).f0) p203 q203
                        obtain rfl : (⟨1, 0, none⟩ : Addr) = ad203 := (by injection e203)
                        (first | simp only [add_plain] at hx203_0 | simp only [add_at] at hx203_0 | simp only [Addr.add, Nat.zero_add] at hx203_0 | skip)
                        replace hx203_0 := (HB.out.cell (World.block_lt_of_cell? w _ hx203_0)).trans hx203_0
                        replace p203 := eq_true p203
                        replace q203 := eq_true q203
                        go_wp2_with (first | (at_builtin; refine print_append_str (w0 := w) w.heap.size rfl (.tmp 16) _ 79 9 5 rfl Tryd.underlying79 Tryd.underlying9 info5 u3 x3_1 (rdOf ByteArray.empty tabG1 ((rd_T43 l0_0 x5_1).f0)) rfl rfl ?aO ?aB ?aS ?aL ?_; (case aB => exact (by repeat (first | (with_reducible first | exact HB.out | apply below_alloc | apply pw_below_drewN | apply below_drew1 | refine below_set ?_ GE200.out) | exact HB.out))); (case aO => exact (Kd.own_of_R (by (with_reducible repeat (first | apply Kd.R_alloc | apply Kd.R_drewN | apply Kd.R_drew)); exact HO_3.out))); (case aS => exact (below_size (by repeat (first | (with_reducible first | exact HB.out | apply below_alloc | apply pw_below_drewN | apply below_drew1 | refine below_set ?_ GE200.out) | exact HB.out)))); (case aL => have := LMc11.out; omega); intro v205 w16 ho0 hb hg; have ho := Kd.R_of_own (h1 := fun _ => rfl) (ok := fun _ => True) ho0 (fun _ _ => trivial); clear ho0; have hat := True.intro; rw [← Ny204.out] at ho; change Kd.R (Kd.int .u8) 5 w16 w.heap.size (fun _ => True) v205 y204 at ho; have n0_ := Aside0.mk (Kd.R_over' (by (with_reducible repeat (first | apply Kd.R_alloc | apply Kd.R_drewN | apply Kd.R_drew)); exact HO_4.out) (Kd.R_typed (by (with_reducible repeat (first | apply Kd.R_alloc | apply Kd.R_drewN | apply Kd.R_drew)); exact HO_3.out)) (by decide) hg); have n1_ := Aside0.mk (blk_grown (g := gb200) (o := .cells #[.slice (some ad202) l0_0.length c0_0] 24 (0, 0)) (by (with_reducible repeat (first | refine blk_drewN ?_ _ | refine blk_drew ?_ | refine blk_alloc ?_ _)); exact BK200.out) hg (Kd.R_ne HO_3.out BK200.out (by decide))); have n2_ := Aside0.mk (hb); have n3_ := Aside0.mk (ho); clear HO_4; clear BK200; clear HB; clear HO_3; have HO_4 := n0_; have BK200 := n1_; have HB := n2_; have HO206 := n3_; clear n0_ n1_ n2_ n3_; clear ho hb hg hat; have hcz17_0 : w16.cell? ⟨gb200, 0, none⟩ = some (.slice (some ad202) l0_0.length c0_0) := (blk_cell BK200.out 0).trans rfl; have hfz17_0 := blk_frozen BK200.out 0; have p207 : 0 ≤ (x5_1 : Int) := of_decide_eq_true (by first | (with_reducible assumption) | assumption); have q207 : x5_1 < (l0_0.length : Int) := of_decide_eq_true (by first | (with_reducible assumption) | assumption); obtain ⟨ad207, e207, hx207_0, hx207_1, hx207_2, hx207_3⟩ := at_T43 HR0_0.out x5_1 p207 q207; obtain rfl : ad202 = ad207 := (by injection e207); replace hx207_0 := (HB.out.cell (World.block_lt_of_cell? w _ hx207_0)).trans hx207_0; replace hx207_1 := (HB.out.cell (World.block_lt_of_cell? w _ hx207_1)).trans hx207_1; replace hx207_2 := (HB.out.cell (World.block_lt_of_cell? w _ hx207_2)).trans hx207_2; replace hx207_3 := (HB.out.cell (World.block_lt_of_cell? w _ hx207_3)).trans hx207_3; replace p207 := eq_true p207; replace q207 := eq_true q207) | ((with_reducible refine gate_builtin (b := .append) (xs := #[.tmp 33, .tmp 34]) rfl ?_); (try (refine gate_guard (by rfl) ?_; dsimp only)); at_builtin; refine Kd.R_append (Kd.int .u8) (w0 := w) w.heap.size rfl (.tmp 33) (.tmp 34) 79 5 (.int .u8 0) 1 rfl Tryd.underlying79 info5 rfl (by decide) (by omega) v205 y204 40 [.int .u8 40] (fun _ => True) (fun _ => False) rfl rfl ?aP (fun _ hk => hk.elim) ?aF ?aO ?aB ?aS ?aL ?_; (case aP => exact rfl); (case aB => exact (by repeat (first | (with_reducible first | exact HB.out | apply below_alloc | apply pw_below_drewN | apply below_drew1 | refine below_set ?_ GE200.out) | exact HB.out))); (case aF => exact (fun _ _ => trivial)); (case aO => exact (by (with_reducible repeat (first | apply Kd.R_alloc | apply Kd.R_drewN | apply Kd.R_drew)); exact HO206.out)); (case aS => exact (below_size (by repeat (first | (with_reducible first | exact HB.out | apply below_alloc | apply pw_below_drewN | apply below_drew1 | refine below_set ?_ GE200.out) | exact HB.out)))); (case aL => have := LMc13.out; omega); intro v209 w18 ho hb hg hat; rw [← Ny208.out] at ho; have n0_ := Aside0.mk (Kd.R_over' (by (with_reducible repeat (first | apply Kd.R_alloc | apply Kd.R_drewN | apply Kd.R_drew)); exact HO_4.out) (Kd.R_typed (by (with_reducible repeat (first | apply Kd.R_alloc | apply Kd.R_drewN | apply Kd.R_drew)); exact HO206.out)) (by decide) hg); have n1_ := Aside0.mk (blk_grown (g := gb200) (o := .cells #[.slice (some ad202) l0_0.length c0_0] 24 (0, 0)) (by (with_reducible repeat (first | refine blk_drewN ?_ _ | refine blk_drew ?_ | refine blk_alloc ?_ _)); exact BK200.out) hg (Kd.R_ne HO206.out BK200.out (by decide))); have n2_ := Aside0.mk (hb); have n3_ := Aside0.mk (ho); clear HO_4; clear BK200; clear HB; clear HO206; have HO_4 := n0_; have BK200 := n1_; have HB := n2_; have HO210 := n3_; clear n0_ n1_ n2_ n3_; clear ho hb hg hat; have hcz19_0 : w18.cell? ⟨gb200, 0, none⟩ = some (.slice (some ad202) l0_0.length c0_0) := (blk_cell BK200.out 0).trans rfl; have hfz19_0 := blk_frozen BK200.out 0; have p211 : 0 ≤ (x5_1 : Int) := of_decide_eq_true (by first | (with_reducible assumption) | assumption); have q211 : x5_1 < (l0_0.length : Int) := of_decide_eq_true (by first | (with_reducible assumption) | assumption); obtain ⟨ad211, e211, hx211_0, hx211_1, hx211_2, hx211_3⟩ := at_T43 HR0_0.out x5_1 p211 q211; obtain rfl : ad202 = ad211 := (by injection e211); replace hx211_0 := (HB.out.cell (World.block_lt_of_cell? w _ hx211_0)).trans hx211_0; replace hx211_1 := (HB.out.cell (World.block_lt_of_cell? w _ hx211_1)).trans hx211_1; replace hx211_2 := (HB.out.cell (World.block_lt_of_cell? w _ hx211_2)).trans hx211_2; replace hx211_3 := (HB.out.cell (World.block_lt_of_cell? w _ hx211_3)).trans hx211_3; replace p211 := eq_true p211; replace q211 := eq_true q211) | ((with_reducible refine gate_builtin (b := .append) (xs := #[.tmp 36, .tmp 45]) rfl ?_); (try (refine gate_guard (by rfl) ?_; dsimp only)); at_builtin; refine Kd.R_append (Kd.int .i64) (w0 := w) w.heap.size rfl (.tmp 36) (.tmp 45) 55 3 (.int .i64 0) 8 rfl Tryd.underlying55 info3 rfl (by decide) (by omega) u4 x4_1 (wrap64 (x5_1 + ((rd_T43 l0_0 x5_1).f3))) [.int .i64 (wrap64 (x5_1 + ((rd_T43 l0_0 x5_1).f3)))] (fun _ => True) (fun _ => False) rfl rfl ?aP (fun _ hk => hk.elim) ?aF ?aO ?aB ?aS ?aL ?_; (case aP => exact rfl); (case aB => exact (by repeat (first | (with_reducible first | exact HB.out | apply below_alloc | apply pw_below_drewN | apply below_drew1 | refine below_set ?_ GE200.out) | exact HB.out))); (case aF => exact (fun _ _ => trivial)); (case aO => exact (by (with_reducible repeat (first | apply Kd.R_alloc | apply Kd.R_drewN | apply Kd.R_drew)); exact HO_4.out)); (case aS => exact (below_size (by repeat (first | (with_reducible first | exact HB.out | apply below_alloc | apply pw_below_drewN | apply below_drew1 | refine below_set ?_ GE200.out) | exact HB.out)))); (case aL => have := LMc14.out; omega); intro v213 w20 ho hb hg hat; rw [← Ny212.out] at ho; have n0_ := Aside0.mk (blk_grown (g := gb200) (o := .cells #[.slice (some ad202) l0_0.length c0_0] 24 (0, 0)) (by (with_reducible repeat (first | refine blk_drewN ?_ _ | refine blk_drew ?_ | refine blk_alloc ?_ _)); exact BK200.out) hg (Kd.R_ne HO_4.out BK200.out (by decide))); have n1_ := Aside0.mk (Kd.R_over' (by (with_reducible repeat (first | apply Kd.R_alloc | apply Kd.R_drewN | apply Kd.R_drew)); exact HO210.out) (Kd.R_typed (by (with_reducible repeat (first | apply Kd.R_alloc | apply Kd.R_drewN | apply Kd.R_drew)); exact HO_4.out)) (by decide) hg); have n2_ := Aside0.mk (hb); have n3_ := Aside0.mk (ho); clear BK200; clear HO210; clear HB; clear HO_4; have BK200 := n0_; have HO210 := n1_; have HB := n2_; have HO214 := n3_; clear n0_ n1_ n2_ n3_; clear ho hb hg hat))
                        go_roundg k1
                        case measure => have := HK1.out; omega
                        case rel => exact ⟨(y208), (y212), (wrap64 (x5_1 + 1)), (by first | rfl | (simp; done) | (simp [*]; done)), H', ⟨by have := HK1.out; omega⟩, ⟨by (with_reducible repeat (first | apply Kd.R_alloc | apply Kd.R_drewN | apply Kd.R_drew)); exact HO210.out⟩, ⟨by (with_reducible repeat (first | apply Kd.R_alloc | apply Kd.R_drewN | apply Kd.R_drew)); exact HO214.out⟩, ⟨by (with_reducible repeat (first | refine blk_drewN ?_ _ | refine blk_drew ?_ | refine blk_alloc ?_ _)); exact BK200.out⟩, ⟨by repeat (first | (with_reducible first | exact HB.out | apply below_alloc | apply pw_below_drewN | apply below_drew1 | refine below_set ?_ GE200.out) | exact HB.out)⟩⟩
                      · rw [if_neg c14] at H
                        exact absurd H (by simp)
                    · rw [if_neg c13] at H
                      exact absurd H (by simp)
                  · rw [if_neg c12] at H
                    have c12b0 : decide (1 < ((rd_T43 l0_0 x5_1).f3)) = false := decide_eq_false c12
                    clear c12
                    have H' := Aside0.mk H
                    clear H
                    have hcz21_0 : wr.cell? ⟨gb200, 0, none⟩ = some (.slice A0_0 l0_0.length c0_0) := (blk_cell BK200.out 0).trans rfl
                    have hfz21_0 := blk_frozen BK200.out 0
                    have p202 : 0 ≤ (x5_1 : Int) := of_decide_eq_true (by first | (with_reducible assumption) | assumption)
                    have q202 : x5_1 < (l0_0.length : Int) := of_decide_eq_true (by first | (with_reducible assumption) | assumption)
                    obtain ⟨ad202, e202, hx202_0, hx202_1, hx202_2, hx202_3⟩ := at_T43 HR0_0.out x5_1 p202 q202
                    cases e202
                    replace hx202_0 := (HB.out.cell (World.block_lt_of_cell? w _ hx202_0)).trans hx202_0
                    replace hx202_1 := (HB.out.cell (World.block_lt_of_cell? w _ hx202_1)).trans hx202_1
                    replace hx202_2 := (HB.out.cell (World.block_lt_of_cell? w _ hx202_2)).trans hx202_2
                    replace hx202_3 := (HB.out.cell (World.block_lt_of_cell? w _ hx202_3)).trans hx202_3
                    replace p202 := eq_true p202
                    replace q202 := eq_true q202
                    have p203 : 0 ≤ (((rd_T43 l0_0 x5_1).f0) : Int) := of_decide_eq_true (by first | (with_reducible assumption) | assumption)
                    have q203 : ((rd_T43 l0_0 x5_1).f0) < (58 : Int) := of_decide_eq_true (by first | (with_reducible assumption) | assumption)
                    obtain ⟨ad203, e203, hx203_0⟩ := Kd.at_string HRG1.out ((rd_T43 l0_0 x5_1).f0) p203 q203
                    obtain rfl : (⟨1, 0, none⟩ : Addr) = ad203 := (by injection e203)
                    (first | simp only [add_plain] at hx203_0 | simp only [add_at] at hx203_0 | simp only [Addr.add, Nat.zero_add] at hx203_0 | skip)
                    replace hx203_0 := (HB.out.cell (World.block_lt_of_cell? w _ hx203_0)).trans hx203_0
                    replace p203 := eq_true p203
                    replace q203 := eq_true q203
                    go_wp2_with (first | (at_builtin; refine print_append_str (w0 := w) w.heap.size rfl (.tmp 16) _ 79 9 5 rfl Tryd.underlying79 Tryd.underlying9 info5 u3 x3_1 (rdOf ByteArray.empty tabG1 ((rd_T43 l0_0 x5_1).f0)) rfl rfl ?aO ?aB ?aS ?aL ?_; (case aB => exact (by repeat (first | (with_reducible first | exact HB.out | apply below_alloc | apply pw_below_drewN | apply below_drew1 | refine below_set ?_ GE200.out) | exact HB.out))); (case aO => exact (Kd.own_of_R (by (with_reducible repeat (first | apply Kd.R_alloc | apply Kd.R_drewN | apply Kd.R_drew)); exact HO_3.out))); (case aS => exact (below_size (by repeat (first | (with_reducible first | exact HB.out | apply below_alloc | apply pw_below_drewN | apply below_drew1 | refine below_set ?_ GE200.out) | exact HB.out)))); (case aL => have := LMc11.out; omega); intro v205 w22 ho0 hb hg; have ho := Kd.R_of_own (h1 := fun _ => rfl) (ok := fun _ => True) ho0 (fun _ _ => trivial); clear ho0; have hat := True.intro; rw [← Ny204.out] at ho; change Kd.R (Kd.int .u8) 5 w22 w.heap.size (fun _ => True) v205 y204 at ho; have n0_ := Aside0.mk (Kd.R_over' (by (with_reducible repeat (first | apply Kd.R_alloc | apply Kd.R_drewN | apply Kd.R_drew)); exact HO_4.out) (Kd.R_typed (by (with_reducible repeat (first | apply Kd.R_alloc | apply Kd.R_drewN | apply Kd.R_drew)); exact HO_3.out)) (by decide) hg); have n1_ := Aside0.mk (blk_grown (g := gb200) (o := .cells #[.slice (some ad202) l0_0.length c0_0] 24 (0, 0)) (by (with_reducible repeat (first | refine blk_drewN ?_ _ | refine blk_drew ?_ | refine blk_alloc ?_ _)); exact BK200.out) hg (Kd.R_ne HO_3.out BK200.out (by decide))); have n2_ := Aside0.mk (hb); have n3_ := Aside0.mk (ho); clear HO_4; clear BK200; clear HB; clear HO_3; have HO_4 := n0_; have BK200 := n1_; have HB := n2_; have HO206 := n3_; clear n0_ n1_ n2_ n3_; clear ho hb hg hat; have hcz23_0 : w22.cell? ⟨gb200, 0, none⟩ = some (.slice (some ad202) l0_0.length c0_0) := (blk_cell BK200.out 0).trans rfl; have hfz23_0 := blk_frozen BK200.out 0; have p207 : 0 ≤ (x5_1 : Int) := of_decide_eq_true (by first | (with_reducible assumption) | assumption); have q207 : x5_1 < (l0_0.length : Int) := of_decide_eq_true (by first | (with_reducible assumption) | assumption); obtain ⟨ad207, e207, hx207_0, hx207_1, hx207_2, hx207_3⟩ := at_T43 HR0_0.out x5_1 p207 q207; obtain rfl : ad202 = ad207 := (by injection e207); replace hx207_0 := (HB.out.cell (World.block_lt_of_cell? w _ hx207_0)).trans hx207_0; replace hx207_1 := (HB.out.cell (World.block_lt_of_cell? w _ hx207_1)).trans hx207_1; replace hx207_2 := (HB.out.cell (World.block_lt_of_cell? w _ hx207_2)).trans hx207_2; replace hx207_3 := (HB.out.cell (World.block_lt_of_cell? w _ hx207_3)).trans hx207_3; replace p207 := eq_true p207; replace q207 := eq_true q207))
                    go_loopg [3, 4] k1 (fun kq v3 v4 w' => ∃ (x3_2 : List Int) (x4_2 : List Int), Aside0 (monikerref4_Sketch.l1 kq x3_2 x4_2 x5_1 l0_0 = some r) ∧ Aside0 (kq ≤ k1) ∧ Aside0 (Kd.R (Kd.int .u8) 5 w' w.heap.size (fun _ => True) v3 x3_2) ∧ Aside0 (Kd.R (Kd.int .i64) 3 w' w.heap.size (fun _ => True) v4 x4_2) ∧ Aside0 (w'.heap[gb200]? = some (.cells #[(.slice (some ad202) l0_0.length c0_0)] 24 (0, 0))) ∧ Aside0 (Below w.heap.size w w'))
                    case atStart => exact ⟨(y204), (x4_1), H', ⟨Nat.le_refl _⟩, ⟨by (with_reducible repeat (first | apply Kd.R_alloc | apply Kd.R_drewN | apply Kd.R_drew)); exact HO206.out⟩, ⟨by (with_reducible repeat (first | apply Kd.R_alloc | apply Kd.R_drewN | apply Kd.R_drew)); exact HO_4.out⟩, ⟨by (with_reducible repeat (first | refine blk_drewN ?_ _ | refine blk_drew ?_ | refine blk_alloc ?_ _)); exact BK200.out⟩, ⟨by repeat (first | (with_reducible first | exact HB.out | apply below_alloc | apply pw_below_drewN | apply below_drew1 | refine below_set ?_ GE200.out) | exact HB.out)⟩⟩
                    case round =>
                      clear H'
                      try clear c1
                      try clear p2
                      try clear q2
                      try clear hx2
                      try clear c3
                      try clear c4
                      try clear p6
                      try clear c7
                      try clear c7b0
                      try clear c8
                      try clear c8b0
                      try clear c9
                      try clear c9b0
                      try clear c10
                      try clear c10b0
                      try clear c11
                      try clear c12
                      try clear c12b0
                      try clear c13
                      try clear c14
                      try clear p20
                      try clear q20
                      try clear hx20
                      try clear p21
                      try clear q21
                      try clear hx21
                      try clear hcz15_0
                      try clear hcz17_0
                      try clear hcz19_0
                      try clear hcz21_0
                      try clear hcz23_0
                      try clear hcz5_0
                      try clear hfz15_0
                      try clear hfz17_0
                      try clear hfz19_0
                      try clear hfz21_0
                      try clear hfz23_0
                      try clear hfz5_0
                      try clear hx202_0
                      try clear hx202_1
                      try clear hx202_2
                      try clear hx202_3
                      try clear hx203_0
                      try clear hx207_0
                      try clear hx207_1
                      try clear hx207_2
                      try clear hx207_3
                      try clear hx211_0
                      try clear hx211_1
                      try clear hx211_2
                      try clear hx211_3
                      try clear p2
                      try clear p202
                      try clear p203
                      try clear p207
                      try clear p211
                      try clear q202
                      try clear q203
                      try clear q207
                      try clear q211
                      obtain ⟨x3_2, x4_2, HA, HK2, HO_3, HO_4, BK200, HB⟩ := hrel
                      cases gk with
                      | zero => exact absurd HA.out (by simp [monikerref4_Sketch.l1])
                      | succ k2 =>
                        have H := HA.out
                        clear HA
                        simp only [monikerref4_Sketch.l1] at H
                        by_cases c24 : (x4_2.length : Int) > 0
                        · rw [if_pos c24] at H
                          have c24b0 : decide (0 < (x4_2.length : Int)) = true := decide_eq_true c24
                          have c24b1 : decide (0 < x4_2.length) = true := decide_eq_true (by omega)
                          clear c24
                          obtain ⟨ji25, hji25⟩ : ∃ j_ : Int, (wrap64 ((x4_2.length : Int) - 1)) = j_ := ⟨_, rfl⟩
                          replace H : (if 0 ≤ (ji25) then (if (ji25) < (x4_2.length : Int) then (if (rd x4_2 (ji25)) = (wrap64 (x5_1 + 1)) then (if x3_2.length < 140737488355328 then (if (ji25) ≤ (x4_2.length : Int) then (monikerref4_Sketch.l1 k2 (x3_2 ++ [41]) (x4_2.take ((ji25) : Int).toNat) x5_1 l0_0) else (none)) else (none)) else (if x3_2.length < 140737488355328 then (monikerref4_Sketch.l0 k2 (x3_2 ++ [32]) x4_2 (wrap64 (x5_1 + 1)) l0_0) else (none))) else (none)) else (none)) = some r := by first | (rw [hji25] at H; exact H) | (simp only [hji25] at H ⊢; exact H)
                          have hji25w : (IntKind.i64.wrap ((x4_2.length : Int) - 1)) = ji25 := (i64_w _).trans hji25
                          by_cases c26 : 0 ≤ (ji25)
                          · rw [if_pos c26] at H
                            have c26b0 : decide (0 ≤ (ji25)) = true := decide_eq_true c26
                            clear c26
                            by_cases c27 : (ji25) < (x4_2.length : Int)
                            · rw [if_pos c27] at H
                              have c27b0 : decide ((ji25) < (x4_2.length : Int)) = true := decide_eq_true c27
                              clear c27
                              by_cases c28 : (rd x4_2 (ji25)) = (wrap64 (x5_1 + 1))
                              · rw [if_pos c28] at H
                                have c28b0 : ((rd x4_2 (ji25)) == (wrap64 (x5_1 + 1))) = true := beq_iff_eq.mpr c28
                                have c28b1 : ((rd x4_2 (ji25)) != (wrap64 (x5_1 + 1))) = false := bne_eq_false_iff_eq.mpr c28
                                clear c28
                                by_cases c29 : x3_2.length < 140737488355328
                                · rw [if_pos c29] at H
                                  have LMc29 := Aside0.mk c29
                                  clear c29
                                  obtain ⟨y216, hy216⟩ : ∃ y_ : List Int, y_ = (x3_2 ++ [41]) := ⟨_, rfl⟩
                                  replace H : (if (ji25) ≤ (x4_2.length : Int) then (monikerref4_Sketch.l1 k2 y216 (x4_2.take ((ji25) : Int).toNat) x5_1 l0_0) else (none)) = some r := by first | (rw [hy216]; with_reducible exact H) | (have H2_ := (Option.bind_some _ _).symm.trans H; rw [hy216]; with_reducible exact H2_) | (have H2_ := (Option.bind_some _ _).symm.trans H; with_reducible exact H2_) | with_reducible exact H | (rw [hy216]; exact H) | exact H
                                  have Ny216 := Aside0.mk hy216
                                  clear hy216
                                  by_cases c30 : (ji25) ≤ (x4_2.length : Int)
                                  · rw [if_pos c30] at H
                                    have c30b0 := eq_true c30
                                    have c30b1 : decide ((ji25) ≤ (x4_2.length : Int)) = true := decide_eq_true c30
                                    clear c30
                                    obtain ⟨y219, hy219⟩ : ∃ y_ : List Int, y_ = (x4_2.take ((ji25) : Int).toNat) := ⟨_, rfl⟩
                                    replace H : (monikerref4_Sketch.l1 k2 y216 y219 x5_1 l0_0) = some r := by first | (rw [hy219]; with_reducible exact H) | (have H2_ := (Option.bind_some _ _).symm.trans H; rw [hy219]; with_reducible exact H2_) | (have H2_ := (Option.bind_some _ _).symm.trans H; with_reducible exact H2_) | with_reducible exact H | (rw [hy219]; exact H) | exact H
                                    have Ny219 := Aside0.mk hy219
                                    clear hy219
                                    have H' := Aside0.mk H
                                    clear H
                                    obtain ⟨Ao31, co31, eo31⟩ := Kd.R_slice HO_4.out
                                    subst eo31
                                    have p215 : 0 ≤ ((ji25) : Int) := of_decide_eq_true (by first | (with_reducible assumption) | assumption)
                                    have q215 : (ji25) < (x4_2.length : Int) := of_decide_eq_true (by first | (with_reducible assumption) | assumption)
                                    obtain ⟨ad215, e215, hx215_0⟩ := Kd.at_int (Kd.R_reads' HO_4.out).2.2 (ji25) p215 q215
                                    cases e215
                                    replace p215 := eq_true p215
                                    replace q215 := eq_true q215
                                    go_wp2_with (first | ((with_reducible refine gate_builtin (b := .append) (xs := #[.tmp 61, .tmp 62]) rfl ?_); (try (refine gate_guard (by rfl) ?_; dsimp only)); at_builtin; refine Kd.R_append (Kd.int .u8) (w0 := w) w.heap.size rfl (.tmp 61) (.tmp 62) 79 5 (.int .u8 0) 1 rfl Tryd.underlying79 info5 rfl (by decide) (by omega) u3 x3_2 41 [.int .u8 41] (fun _ => True) (fun _ => False) rfl rfl ?aP (fun _ hk => hk.elim) ?aF ?aO ?aB ?aS ?aL ?_; (case aP => exact rfl); (case aB => exact (by repeat (first | (with_reducible first | exact HB.out | apply below_alloc | apply pw_below_drewN | apply below_drew1 | refine below_set ?_ GE200.out) | exact HB.out))); (case aF => exact (fun _ _ => trivial)); (case aO => exact (by (with_reducible repeat (first | apply Kd.R_alloc | apply Kd.R_drewN | apply Kd.R_drew)); exact HO_3.out)); (case aS => exact (below_size (by repeat (first | (with_reducible first | exact HB.out | apply below_alloc | apply pw_below_drewN | apply below_drew1 | refine below_set ?_ GE200.out) | exact HB.out)))); (case aL => have := LMc29.out; omega); intro v217 w32 ho hb hg hat; rw [← Ny216.out] at ho; have n0_ := Aside0.mk (Kd.R_over' (by (with_reducible repeat (first | apply Kd.R_alloc | apply Kd.R_drewN | apply Kd.R_drew)); exact HO_4.out) (Kd.R_typed (by (with_reducible repeat (first | apply Kd.R_alloc | apply Kd.R_drewN | apply Kd.R_drew)); exact HO_3.out)) (by decide) hg); have n1_ := Aside0.mk (blk_grown (g := gb200) (o := .cells #[.slice (some ad202) l0_0.length c0_0] 24 (0, 0)) (by (with_reducible repeat (first | refine blk_drewN ?_ _ | refine blk_drew ?_ | refine blk_alloc ?_ _)); exact BK200.out) hg (Kd.R_ne HO_3.out BK200.out (by decide))); have n2_ := Aside0.mk (hb); have n3_ := Aside0.mk (ho); clear HO_4; clear BK200; clear HB; clear HO_3; have HO_4 := n0_; have BK200 := n1_; have HB := n2_; have HO218 := n3_; clear n0_ n1_ n2_ n3_; clear ho hb hg hat; have q33 : ((ji25) : Int) ≤ ((x4_2.length : Int) : Int) := of_decide_eq_true (by first | (with_reducible assumption) | assumption); obtain ⟨i033, hi033, _, hsz33, _⟩ := info_parts info3; have hcut33 := cut_to (P := Tryd.prog) 55 3 .i64 Tryd.underlying55 hi033 (some ad215) x4_2.length co31 (ji25) (of_decide_eq_true (by first | (with_reducible assumption) | assumption)) q33 (Kd.R_reads' HO_4.out).2.1; have hr33 := Kd.R_take (m := ((ji25) : Int).toNat) HO_4.out (by omega); have hy33 : y219.length = ((ji25) : Int).toNat := (by rw [Ny219.out, List.length_take]; omega); rw [← Ny219.out] at hr33; rw [← hy33] at hr33 hcut33; clear hy33 hi033 hsz33 HO_4; have HO221 := Aside0.mk hr33; clear hr33; replace q33 := eq_true q33))
                                    go_roundg k2
                                    case measure => have := HK1.out; have := HK2.out; omega
                                    case rel => exact ⟨(y216), (y219), H', ⟨by have := HK1.out; have := HK2.out; omega⟩, ⟨by (with_reducible repeat (first | apply Kd.R_alloc | apply Kd.R_drewN | apply Kd.R_drew)); exact HO218.out⟩, ⟨by (with_reducible repeat (first | apply Kd.R_alloc | apply Kd.R_drewN | apply Kd.R_drew)); exact HO221.out⟩, ⟨by (with_reducible repeat (first | refine blk_drewN ?_ _ | refine blk_drew ?_ | refine blk_alloc ?_ _)); exact BK200.out⟩, ⟨by repeat (first | (with_reducible first | exact HB.out | apply below_alloc | apply pw_below_drewN | apply below_drew1 | refine below_set ?_ GE200.out) | exact HB.out)⟩⟩
                                  · rw [if_neg c30] at H
                                    exact absurd H (by simp)
                                · rw [if_neg c29] at H
                                  exact absurd H (by simp)
                              · rw [if_neg c28] at H
                                have c28b0 : ((rd x4_2 (ji25)) == (wrap64 (x5_1 + 1))) = false := beq_eq_false_iff_ne.mpr c28
                                have c28b1 : ((rd x4_2 (ji25)) != (wrap64 (x5_1 + 1))) = true := bne_iff_ne.mpr c28
                                by_cases c34 : x3_2.length < 140737488355328
                                · rw [if_pos c34] at H
                                  have LMc34 := Aside0.mk c34
                                  clear c34
                                  obtain ⟨y222, hy222⟩ : ∃ y_ : List Int, y_ = (x3_2 ++ [32]) := ⟨_, rfl⟩
                                  replace H : (monikerref4_Sketch.l0 k2 y222 x4_2 (wrap64 (x5_1 + 1)) l0_0) = some r := by first | (rw [hy222]; with_reducible exact H) | (have H2_ := (Option.bind_some _ _).symm.trans H; rw [hy222]; with_reducible exact H2_) | (have H2_ := (Option.bind_some _ _).symm.trans H; with_reducible exact H2_) | with_reducible exact H | (rw [hy222]; exact H) | exact H
                                  have Ny222 := Aside0.mk hy222
                                  clear hy222
                                  have H' := Aside0.mk H
                                  clear H
                                  obtain ⟨Ao35, co35, eo35⟩ := Kd.R_slice HO_4.out
                                  subst eo35
                                  have p215 : 0 ≤ ((ji25) : Int) := of_decide_eq_true (by first | (with_reducible assumption) | assumption)
                                  have q215 : (ji25) < (x4_2.length : Int) := of_decide_eq_true (by first | (with_reducible assumption) | assumption)
                                  obtain ⟨ad215, e215, hx215_0⟩ := Kd.at_int (Kd.R_reads' HO_4.out).2.2 (ji25) p215 q215
                                  cases e215
                                  replace p215 := eq_true p215
                                  replace q215 := eq_true q215
                                  go_wp2_with (first | ((with_reducible refine gate_builtin (b := .append) (xs := #[.tmp 72, .tmp 73]) rfl ?_); (try (refine gate_guard (by rfl) ?_; dsimp only)); at_builtin; refine Kd.R_append (Kd.int .u8) (w0 := w) w.heap.size rfl (.tmp 72) (.tmp 73) 79 5 (.int .u8 0) 1 rfl Tryd.underlying79 info5 rfl (by decide) (by omega) u3 x3_2 32 [.int .u8 32] (fun _ => True) (fun _ => False) rfl rfl ?aP (fun _ hk => hk.elim) ?aF ?aO ?aB ?aS ?aL ?_; (case aP => exact rfl); (case aB => exact (by repeat (first | (with_reducible first | exact HB.out | apply below_alloc | apply pw_below_drewN | apply below_drew1 | refine below_set ?_ GE200.out) | exact HB.out))); (case aF => exact (fun _ _ => trivial)); (case aO => exact (by (with_reducible repeat (first | apply Kd.R_alloc | apply Kd.R_drewN | apply Kd.R_drew)); exact HO_3.out)); (case aS => exact (below_size (by repeat (first | (with_reducible first | exact HB.out | apply below_alloc | apply pw_below_drewN | apply below_drew1 | refine below_set ?_ GE200.out) | exact HB.out)))); (case aL => have := LMc34.out; omega); intro v223 w36 ho hb hg hat; rw [← Ny222.out] at ho; have n0_ := Aside0.mk (Kd.R_over' (by (with_reducible repeat (first | apply Kd.R_alloc | apply Kd.R_drewN | apply Kd.R_drew)); exact HO_4.out) (Kd.R_typed (by (with_reducible repeat (first | apply Kd.R_alloc | apply Kd.R_drewN | apply Kd.R_drew)); exact HO_3.out)) (by decide) hg); have n1_ := Aside0.mk (blk_grown (g := gb200) (o := .cells #[.slice (some ad202) l0_0.length c0_0] 24 (0, 0)) (by (with_reducible repeat (first | refine blk_drewN ?_ _ | refine blk_drew ?_ | refine blk_alloc ?_ _)); exact BK200.out) hg (Kd.R_ne HO_3.out BK200.out (by decide))); have n2_ := Aside0.mk (hb); have n3_ := Aside0.mk (ho); clear HO_4; clear BK200; clear HB; clear HO_3; have HO_4 := n0_; have BK200 := n1_; have HB := n2_; have HO224 := n3_; clear n0_ n1_ n2_ n3_; clear ho hb hg hat))
                                  go_roundg k2
                                  case measure => have := HK1.out; have := HK2.out; omega
                                  case rel => exact ⟨(y222), (x4_2), (wrap64 (x5_1 + 1)), (by first | rfl | (simp; done) | (simp [*]; done)), H', ⟨by have := HK1.out; have := HK2.out; omega⟩, ⟨by (with_reducible repeat (first | apply Kd.R_alloc | apply Kd.R_drewN | apply Kd.R_drew)); exact HO224.out⟩, ⟨by (with_reducible repeat (first | apply Kd.R_alloc | apply Kd.R_drewN | apply Kd.R_drew)); exact HO_4.out⟩, ⟨by (with_reducible repeat (first | refine blk_drewN ?_ _ | refine blk_drew ?_ | refine blk_alloc ?_ _)); exact BK200.out⟩, ⟨by repeat (first | (with_reducible first | exact HB.out | apply below_alloc | apply pw_below_drewN | apply below_drew1 | refine below_set ?_ GE200.out) | exact HB.out)⟩⟩
                                · rw [if_neg c34] at H
                                  exact absurd H (by simp)
                            · rw [if_neg c27] at H
                              exact absurd H (by simp)
                          · rw [if_neg c26] at H
                            exact absurd H (by simp)
                        · rw [if_neg c24] at H
                          have c24b0 : decide (0 < (x4_2.length : Int)) = false := decide_eq_false c24
                          have c24b1 : decide (0 < x4_2.length) = false := decide_eq_false (by omega)
                          clear c24
                          have H' := Aside0.mk H
                          clear H
                          obtain ⟨Ao37, co37, eo37⟩ := Kd.R_slice HO_4.out
                          subst eo37
                          go_wp2
                          go_roundg k2
                          case measure => have := HK1.out; have := HK2.out; omega
                          case rel => exact ⟨(x3_2), (x4_2), (wrap64 (x5_1 + 1)), (by first | rfl | (simp; done) | (simp [*]; done)), H', ⟨by have := HK1.out; have := HK2.out; omega⟩, ⟨by (with_reducible repeat (first | apply Kd.R_alloc | apply Kd.R_drewN | apply Kd.R_drew)); exact HO_3.out⟩, ⟨by (with_reducible repeat (first | apply Kd.R_alloc | apply Kd.R_drewN | apply Kd.R_drew)); exact HO_4.out⟩, ⟨by (with_reducible repeat (first | refine blk_drewN ?_ _ | refine blk_drew ?_ | refine blk_alloc ?_ _)); exact BK200.out⟩, ⟨by repeat (first | (with_reducible first | exact HB.out | apply below_alloc | apply pw_below_drewN | apply below_drew1 | refine below_set ?_ GE200.out) | exact HB.out)⟩⟩
                · rw [if_neg c11] at H
                  exact absurd H (by simp)
              · rw [if_neg c10] at H
                exact absurd H (by simp)
            · rw [if_neg c9] at H
              exact absurd H (by simp)
          · rw [if_neg c8] at H
            exact absurd H (by simp)
        · rw [if_neg c7] at H
          have c7b0 : decide (x5_1 < (l0_0.length : Int)) = false := decide_eq_false c7
          clear c7
          obtain rfl := Option.some.inj H
          have hcz38_0 : wr.cell? ⟨gb200, 0, none⟩ = some (.slice A0_0 l0_0.length c0_0) := (blk_cell BK200.out 0).trans rfl
          have hfz38_0 := blk_frozen BK200.out 0
          have hcv39 := own_string (P := Tryd.prog) Tryd.underlying79 Tryd.underlying5 Tryd.underlying9 (Kd.own_of_R HO_3.out)
          go_wp2
          go_ret
          exact ⟨by first | rfl | (simp [errW_none, errW_some] <;> rfl) | (simp [*, errW_none, errW_some] <;> rfl), by repeat (first | (with_reducible first | exact HB.out | apply below_alloc | apply pw_below_drewN | apply below_drew1 | refine below_set ?_ GE200.out) | exact HB.out)⟩
  · replace c3 := Bool.eq_false_iff.mpr c3
    subst c3
    have H1 : (some (⟨#[]⟩ : ByteArray)) = some r := by rw [if_neg (show ¬ (false = true) by decide)] at H; exact H
    clear H
    have H := H1
    clear H1
    obtain rfl := Option.some.inj H
    go_enter Tryd.func12, Tryd.ntmps12
    go_wp2_with (first | ((with_reducible refine gate_dst (N := 1) rfl ?_); (try (refine gate_guard (by rfl) ?_; dsimp only)); refine box_event ?hg (N := 1) ?hd (cs := #[.slice A0_0 l0_0.length c0_0]) (t := 24) ?hr ?_; (case hd => rfl); (case hg => rfl); (case hr => first | (go_simp; done) | (go_simp; rfl)); intro gb200 hg w40 hbox hb; have n0_ := Aside0.mk (below_step (by repeat (first | (with_reducible first | exact HB.out | apply below_alloc | apply pw_below_drewN | apply below_drew1) | exact HB.out)) hb); have n1_ := Aside0.mk (hbox); have n2_ := Aside0.mk ((by rw [hg]; exact (below_size (by repeat (first | (with_reducible first | exact HB.out | apply below_alloc | apply pw_below_drewN | apply below_drew1) | exact HB.out))) : w.heap.size ≤ gb200)); have n3_ := Aside0.mk ((by rw [hg]; exact (below_size (by repeat (first | (with_reducible first | exact HB.out | apply below_alloc | apply pw_below_drewN | apply below_drew1) | exact HB.out))) : w.heap.size ≤ gb200)); clear HB; have HB := n0_; have BK200 := n1_; have GW200 := n2_; have GE200 := n3_; clear n0_ n1_ n2_ n3_; clear hb hbox hg; have hcz41_0 : w40.cell? ⟨gb200, 0, none⟩ = some (.slice A0_0 l0_0.length c0_0) := (blk_cell BK200.out 0).trans rfl; have hfz41_0 := blk_frozen BK200.out 0) | ((with_reducible refine gate_callee (f := 42) rfl ?_); refine goesL_ (some 7) rfl rfl Tryd.func42 (by kernel_rfl) rfl #[.agg #[.slice A0_0 l0_0.length c0_0]] rfl (by (try simp only [List.map_toArray, List.map_cons, List.map_nil]); first | done | rfl | (simp only [List.length_drop, List.length_take]; rfl)) ?_; (with_reducible refine (monikerref4_Shaped.calls k _ _ l0_0 false _ ?side1 ?side2 A2.out).mono ?_); (case side1 => repeat (first | exact (Kd.C_below HR0_0.out HB.out) | (with_reducible refine Kd.C_alloc ?_ _) | (with_reducible refine Kd.C_drewN ?_ _) | (with_reducible refine Kd.C_drew ?_))); (case side2 => exact HC0_0.out); rintro e w42 ⟨rfl, hb⟩; refine ⟨_, rfl, ?_⟩; have n0_ := Aside0.mk (blk_below (g := gb200) (o := .cells #[.slice A0_0 l0_0.length c0_0] 24 (0, 0)) (by (with_reducible repeat (first | refine blk_drewN ?_ _ | refine blk_drew ?_ | refine blk_alloc ?_ _)); exact BK200.out) hb); have n1_ := Aside0.mk (below_step (by repeat (first | (with_reducible first | exact HB.out | apply below_alloc | apply pw_below_drewN | apply below_drew1 | refine below_set ?_ GE200.out) | exact HB.out)) hb); clear BK200; clear HB; have BK200 := n0_; have HB := n1_; clear n0_ n1_; (try clear hb); (try clear hb2); (try clear hk); (try clear hi)))
    go_ret
    exact ⟨by first | rfl | (simp [errW_none, errW_some] <;> rfl) | (simp [*, errW_none, errW_some] <;> rfl), by repeat (first | (with_reducible first | exact HB.out | apply below_alloc | apply pw_below_drewN | apply below_drew1 | refine below_set ?_ GE200.out) | exact HB.out)⟩

end Go.Proofs.YtodldpdnhcafpaaDoor.F

-- TreeSketches, plainly: both writers of a sketch write the same
namespace Go.Proofs.YtodldpdnhcafpaaDoor.Q
open Go.RowKit Go.Proofs.YtodldpdnhcafpaaDoorW.PrintWords Go.Proofs.YtodldpdnhcafpaaDoorW.PrintLast Go.Proofs.YtodldpdnhcafpaaDoorW.PrintMore
open Go.Proofs.YtodldpdnhcafpaaDoor.F
set_option linter.unusedSimpArgs false
set_option linter.unusedVariables false
/-- A node's name. -/
def nmB (x : S43) : List UInt8 := (nmL x.f0).data.toList
def gapB (l : List S43) (n : Int) : List UInt8 := if 0 < n ∧ (rd_T43 l (n - 1)).f3 = 1 then [32] else []
/-- How many brackets close ahead of a node. -/
def cl (n : Int) (t : List Int) : List UInt8 := List.replicate (t.length - (pops n t).length) 41
/-- The text from a node on, the ends of the open ones from the innermost on. -/
def skf (l : List S43) : Nat → Int → List Int → List UInt8
  | 0, n, t => List.replicate t.length 41
  | f + 1, n, t => cl n t ++ gapB l n ++ nmB (rd_T43 l n) ++ (if (rd_T43 l n).f3 > 1 then 40 :: skf l f (n + 1) ((n + (rd_T43 l n).f3) :: pops n t) else skf l f (n + 1) (pops n t))
theorem pops_len (n : Int) : ∀ t : List Int, (pops n t).length ≤ t.length
  | [] => Nat.le_refl _
  | e :: t => by
    simp only [pops]
    split
    · have := pops_len n t; simp only [List.length_cons]; omega
    · exact Nat.le_refl _
theorem cl_cons_same (n : Int) (t : List Int) : cl n (n :: t) = 41 :: cl n t := by
  have h : pops n (n :: t) = pops n t := by simp only [pops]; rw [if_pos trivial]
  unfold cl
  rw [h, List.length_cons, show t.length + 1 - (pops n t).length = (t.length - (pops n t).length) + 1 by have := pops_len n t; omega]
  rfl
theorem cl_no {n e : Int} {t : List Int} (h : e ≠ n) : cl n (e :: t) = [] ∧ pops n (e :: t) = e :: t := by
  have h2 : pops n (e :: t) = e :: t := by simp only [pops]; rw [if_neg h]
  unfold cl
  rw [h2]
  simp
structure SInv (l : List S43) (n : Int) (t : List Int) : Prop where
  rg : ∀ e ∈ t, n ≤ e ∧ e ≤ (l.length : Int)
  srt : t.Pairwise (· ≤ ·)
  root : 0 < n → n < (l.length : Int) → (l.length : Int) ∈ t
theorem pops_pw (n : Int) : ∀ {t : List Int}, t.Pairwise (· ≤ ·) → (pops n t).Pairwise (· ≤ ·)
  | [], h => h
  | e :: t, h => by
    simp only [pops]
    split
    · exact pops_pw n (List.pairwise_cons.1 h).2
    · exact h
theorem pops_gt {n : Int} : ∀ {t : List Int}, (∀ e ∈ t, n ≤ e) → t.Pairwise (· ≤ ·) → ∀ e ∈ pops n t, n < e
  | [], _, _, e, h => by cases h
  | a :: t, hr, hp, e, h => by
    simp only [pops] at h
    split at h
    · exact pops_gt (fun x hx => hr x (List.mem_cons_of_mem _ hx)) (List.pairwise_cons.1 hp).2 e h
    · rename_i c
      have ha := hr a List.mem_cons_self
      rcases List.mem_cons.1 h with rfl | h
      · omega
      · have := (List.pairwise_cons.1 hp).1 e h; omega
theorem pops_keep {n e : Int} (hne : e ≠ n) : ∀ {t : List Int}, e ∈ t → e ∈ pops n t
  | a :: t, h => by
    simp only [pops]
    split
    · rename_i c
      rcases List.mem_cons.1 h with rfl | h
      · exact absurd c hne
      · exact pops_keep hne h
    · exact h
theorem endOf_le {l : List S43} {n : Int} {t : List Int} (h : ∀ e ∈ t, e ≤ (l.length : Int)) : endOf l t ≤ (l.length : Int) := by
  cases t with
  | nil => exact Int.le_refl _
  | cons e t => exact h e List.mem_cons_self
/-- The next node. -/
theorem SInv.next {l : List S43} {n : Int} {t : List Int} (h : SInv l n t) (h0 : 0 ≤ n) (hn : n < (l.length : Int)) (hf1 : 1 ≤ (rd_T43 l n).f3) (hf2 : (rd_T43 l n).f3 ≤ endOf l (pops n t) - n) (hz : (rd_T43 l 0).f3 = (l.length : Int)) :
    SInv l (n + 1) (if (rd_T43 l n).f3 > 1 then (n + (rd_T43 l n).f3) :: pops n t else pops n t) := by
  have hg := pops_gt (fun e he => (h.rg e he).1) h.srt
  have hm : ∀ e ∈ pops n t, e ≤ (l.length : Int) := fun e he => (h.rg e (pops_mem he)).2
  have hE := endOf_le (n := n) hm
  have hp := pops_pw n h.srt
  have hroot : 0 < n → (l.length : Int) ∈ pops n t := fun h1 => pops_keep (by omega) (h.root h1 hn)
  by_cases c : (rd_T43 l n).f3 > 1
  · rw [if_pos c]
    refine ⟨fun e he => ?_, List.pairwise_cons.2 ⟨fun e he => ?_, hp⟩, fun _ h2 => ?_⟩
    · rcases List.mem_cons.1 he with rfl | he
      · omega
      · have := hg e he; have := hm e he; omega
    · cases ht : pops n t with
      | nil => rw [ht] at he; cases he
      | cons a u =>
        rw [ht] at he hf2 hp
        have ha : endOf l (a :: u) = a := rfl
        rw [ha] at hf2
        rcases List.mem_cons.1 he with rfl | he
        · omega
        · have := (List.pairwise_cons.1 hp).1 e he; omega
    · by_cases c0 : n = 0
      · subst c0; rw [hz]; simp
      · exact List.mem_cons_of_mem _ (hroot (by omega))
  · rw [if_neg c]
    refine ⟨fun e he => ?_, hp, fun _ h2 => ?_⟩
    · have := hg e he; have := hm e he; omega
    · by_cases c0 : n = 0
      · subst c0; omega
      · exact hroot (by omega)
/-- What the checked walk says of a node. -/
theorem run_out {l : List S43} {f : Nat} {n : Int} {s : List Int} (h : run l (f + 1) n s = true) : (rd_T43 l n).f0 < 58 ∧ 1 ≤ (rd_T43 l n).f3 ∧ (rd_T43 l n).f3 ≤ endOf l (pops n s) - n ∧ run l f (n + 1) ((n + (rd_T43 l n).f3) :: pops n s) = true := by
  simp only [run] at h
  split at h
  · cases h
  · split at h
    · cases h
    · split at h
      · cases h
      · exact ⟨by omega, by omega, by omega, h⟩
theorem pops_next {l : List S43} {n e : Int} {u : List Int} (h1 : 1 ≤ e) : pops (n + 1) ((n + e) :: u) = pops (n + 1) (if e > 1 then (n + e) :: u else u) := by
  by_cases c : e > 1
  · rw [if_pos c]
  · rw [if_neg c]
    simp only [pops]
    rw [if_pos (by omega)]
theorem w64' {x : Int} (h0 : -9223372036854775808 ≤ x) (h1 : x ≤ 9223372036854775807) : wrap64 x = x := by unfold wrap64; omega
theorem rev_last (e : Int) (t : List Int) (h : t.length < 4398046511104) : wrap64 ((((e :: t).reverse.length : Nat) : Int) - 1) = (t.length : Int) ∧ rd ((e :: t).reverse) (t.length : Int) = e ∧ ((e :: t).reverse).take t.length = t.reverse := by
  refine ⟨?_, ?_, ?_⟩
  · rw [List.length_reverse, List.length_cons, w64' (by omega) (by omega)]; omega
  · have h0 : t.length < ((e :: t).reverse).length := by rw [List.length_reverse, List.length_cons]; omega
    simp [rd, List.getD_eq_getElem?_getD, List.reverse_cons, List.getElem?_append_right]
  · rw [List.reverse_cons]
    rw [List.take_append_of_le_length (by rw [List.length_reverse]; exact Nat.le_refl _), ← List.length_reverse, List.take_length]
theorem pop_loop (l : List S43) (n : Int) (r : List UInt8) : ∀ (t : List Int) (out : List UInt8), t.length < 4398046511104 → out.length + t.length < 140737488355328 →
    Ev (fun k => tree_Sketch.j2 k l (out ++ cl n t) (pops n t).reverse n) r → Ev (fun k => tree_Sketch.l1 k l out t.reverse n) r
  | [], out, h1, h2, h => by
    have e : cl n [] = [] := rfl
    rw [e, List.append_nil] at h
    refine Ev.step (fun k => ?_) h
    rw [tree_Sketch.l1, if_neg (by simp)]
    rfl
  | e :: t, out, h1, h2, h => by
    simp only [List.length_cons] at h1 h2
    obtain ⟨a, b, c⟩ := rev_last e t (by omega)
    have q0 : (((e :: t).reverse.length : Nat) : Int) > 0 := by rw [List.length_reverse, List.length_cons]; omega
    have q1 : (0 : Int) ≤ (t.length : Int) := by omega
    have q2 : (t.length : Int) < (((e :: t).reverse.length : Nat) : Int) := by rw [List.length_reverse, List.length_cons]; omega
    by_cases ce : e = n
    · subst ce
      have hp : pops e (e :: t) = pops e t := by simp only [pops]; rw [if_pos trivial]
      rw [cl_cons_same, hp] at h
      have h' : Ev (fun k => tree_Sketch.j2 k l ((out ++ [41]) ++ cl e t) (pops e t).reverse e) r := by
        rw [List.append_assoc]
        exact h
      refine Ev.step (fun k => ?_) (pop_loop l e r t (out ++ [41]) (by omega) (by rw [List.length_append, List.length_singleton]; omega) h')
      rw [tree_Sketch.l1, if_pos q0, a, if_pos q1, if_pos q2, if_pos b, if_pos (by omega), Int.toNat_natCast, c]
    · obtain ⟨x, y⟩ := cl_no (t := t) ce
      rw [x, y, List.append_nil] at h
      refine Ev.step (fun k => ?_) h
      rw [tree_Sketch.l1, if_pos q0, a, if_pos q1, if_pos q2, if_neg (by rw [b]; exact ce)]
theorem end_loop (o : List Int) (ho : o.length < 4398046511104) : ∀ (d : Nat) (j : Nat) (out : List UInt8), o.length - j = d → j ≤ o.length → out.length + d < 140737488355328 → Ev (fun k => tree_Sketch.l2 k out o (j : Int)) (out ++ List.replicate d 41)
  | 0, j, out, hd, hj, hb => by
    refine Ev.step (f := fun _ => some (out ++ List.replicate 0 41)) (fun k => ?_) (Ev.now _)
    rw [tree_Sketch.l2, if_neg (by omega)]
    simp
  | d + 1, j, out, hd, hj, hb => by
    have ih := end_loop o ho d (j + 1) (out ++ [41]) (by omega) (by omega) (by rw [List.length_append, List.length_singleton]; omega)
    rw [List.append_assoc] at ih
    refine Ev.step (fun k => ?_) ih
    rw [tree_Sketch.l2, if_pos (by omega), if_pos (by omega), w64' (by omega) (by omega)]
    rfl
theorem nmB_len {x : S43} (h0 : 0 ≤ x.f0) (h1 : x.f0 < 58) : (nmB x).length ≤ 20 := by
  unfold nmB
  rw [Array.length_toList]
  exact tab_size h0 h1
theorem cl_len (n : Int) (t : List Int) : (cl n t).length + (pops n t).length = t.length := by
  unfold cl
  rw [List.length_replicate]
  have := pops_len n t
  omega
theorem prog_l0 (l : List S43) (hl : l.length < 4398046511104) (hk : ∀ x ∈ l, 0 ≤ x.f0 ∧ x.f0 ≤ 255) (hz : (rd_T43 l 0).f3 = (l.length : Int)) : ∀ (f : Nat) (n : Int) (t s : List Int) (out : List UInt8), n + f = (l.length : Int) → 0 ≤ n → run l f n s = true → pops n s = pops n t → SInv l n t →
    (out.length : Int) + t.length ≤ 23 * n → (t.length : Int) ≤ n → Ev (fun k => tree_Sketch.l0 k l out t.reverse n) (out ++ skf l f n t)
  | 0, n, t, s, out, hf, h0, hr, hp, hi, hb, ht => by
    have hE := end_loop t.reverse (by rw [List.length_reverse]; omega) t.length 0 out (by rw [List.length_reverse]; omega) (Nat.zero_le _) (by omega)
    refine Ev.step (fun k => ?_) hE
    rw [tree_Sketch.l0, if_neg (by omega)]
    rfl
  | f + 1, n, t, s, out, hf, h0, hr, hp, hi, hb, ht => by
    have hn : n < (l.length : Int) := by omega
    obtain ⟨r1, r2, r3, r4⟩ := run_out hr
    rw [hp] at r3 r4
    have hx : rd_T43 l n ∈ l := by
      have e : rd_T43 l n = l[n.toNat]'(by omega) := by simp [rd_T43, List.getD_eq_getElem?_getD, show n.toNat < l.length by omega]
      rw [e]; exact List.getElem_mem _
    have hk0 := (hk _ hx).1
    have hin := hi.next h0 hn r2 r3 hz
    have hpn := pops_next (l := l) (n := n) (u := pops n t) r2
    have hcl := cl_len n t
    have hnl := nmB_len hk0 r1
    have hw : wrap64 (n + 1) = n + 1 := w64' (by omega) (by omega)
    have hE := endOf_le (n := n) (l := l) (t := pops n t) (fun e he => (hi.rg e (pops_mem he)).2)
    have hwe : wrap64 (n + (rd_T43 l n).f3) = n + (rd_T43 l n).f3 := w64' (by omega) (by omega)
    have hgl : (gapB l n).length ≤ 1 := by unfold gapB; split <;> simp
    refine Ev.step (f := fun k => tree_Sketch.l1 k l out t.reverse n) (fun k => by rw [tree_Sketch.l0, if_pos hn, if_pos h0]) (pop_loop l n _ t out (by omega) (by omega) ?_)
    have hj3 : Ev (fun k => tree_Sketch.j3 k l (out ++ cl n t ++ gapB l n) (pops n t).reverse n) (out ++ skf l (f + 1) n t) := by
      simp only [skf]
      by_cases c : (rd_T43 l n).f3 > 1
      · rw [if_pos c] at hin hpn ⊢
        have ih := prog_l0 l hl hk hz f (n + 1) _ _ (out ++ cl n t ++ gapB l n ++ nmB (rd_T43 l n) ++ [40]) (by omega) (by omega) r4 hpn hin (by simp only [List.length_append, List.length_cons, List.length_nil]; omega) (by rw [List.length_cons]; omega)
        have e : out ++ cl n t ++ gapB l n ++ nmB (rd_T43 l n) ++ [40] ++ skf l f (n + 1) ((n + (rd_T43 l n).f3) :: pops n t) = out ++ (cl n t ++ gapB l n ++ nmB (rd_T43 l n) ++ 40 :: skf l f (n + 1) ((n + (rd_T43 l n).f3) :: pops n t)) := by simp
        rw [e] at ih
        refine Ev.step (fun k => ?_) ih
        rw [tree_Sketch.j3, if_pos c, hw, hwe, List.reverse_cons]
        rfl
      · rw [if_neg c] at hin hpn ⊢
        have ih := prog_l0 l hl hk hz f (n + 1) _ _ (out ++ cl n t ++ gapB l n ++ nmB (rd_T43 l n)) (by omega) (by omega) r4 hpn hin (by simp only [List.length_append]; omega) (by omega)
        have e : out ++ cl n t ++ gapB l n ++ nmB (rd_T43 l n) ++ skf l f (n + 1) (pops n t) = out ++ (cl n t ++ gapB l n ++ nmB (rd_T43 l n) ++ skf l f (n + 1) (pops n t)) := by simp
        rw [e] at ih
        refine Ev.step (fun k => ?_) ih
        rw [tree_Sketch.j3, if_neg c, hw]
        rfl
    refine Ev.step (fun k => ?_) hj3
    rw [tree_Sketch.j2, if_pos ⟨by rw [List.length_append]; omega, by rw [List.length_reverse]; omega, hk0, r1⟩]
    unfold gapB
    by_cases c1 : 0 < n
    · have hw1 : wrap64 (n - 1) = n - 1 := w64' (by omega) (by omega)
      rw [if_pos c1, hw1, if_pos (by omega), if_pos (by omega)]
      by_cases c2 : (rd_T43 l (n - 1)).f3 = 1
      · rw [if_pos c2, if_pos ⟨c1, c2⟩]
      · rw [if_neg c2, if_neg (fun z => c2 z.2), List.append_nil]
    · rw [if_neg c1, if_neg (fun z => c1 z.1), List.append_nil]
/-! ### The document's writer -/
def rkf (l : List S43) : Nat → Int → List Int → List UInt8
  | 0, _, _ => []
  | f + 1, n, t => nmB (rd_T43 l n) ++ (if (rd_T43 l n).f3 > 1 then 40 :: rkf l f (n + 1) ((n + (rd_T43 l n).f3) :: t) else cl (n + 1) t ++ ((if pops (n + 1) t = [] then [] else [32]) ++ rkf l f (n + 1) (pops (n + 1) t)))
theorem pops_ne {n e : Int} {t : List Int} (h : e ∈ t) (hne : e ≠ n) : pops n t ≠ [] := fun z => by have := pops_keep hne h; rw [z] at this; cases this
/-- Both texts are one. -/
theorem skf_rkf (l : List S43) (hz : (rd_T43 l 0).f3 = (l.length : Int)) : ∀ (f : Nat) (n : Int) (t s : List Int), n + f + 1 = (l.length : Int) → 0 ≤ n → run l (f + 1) n s = true → pops n s = pops n t → SInv l n t →
    skf l (f + 1) n t = cl n t ++ gapB l n ++ rkf l (f + 1) n (pops n t)
  | f, n, t, s, hf, h0, hr, hp, hi => by
    have hn : n < (l.length : Int) := by omega
    obtain ⟨r1, r2, r3, r4⟩ := run_out hr
    rw [hp] at r3 r4
    have hin := hi.next h0 hn r2 r3 hz
    have hpn := pops_next (l := l) (n := n) (u := pops n t) r2
    simp only [skf, rkf]
    rw [List.append_assoc (cl n t ++ gapB l n)]
    congr 2
    have hE := endOf_le (n := n) (l := l) (t := pops n t) (fun e he => (hi.rg e (pops_mem he)).2)
    by_cases c : (rd_T43 l n).f3 > 1
    · rw [if_pos c, if_pos c]
      rw [if_pos c] at hin hpn
      cases f with
      | zero => omega
      | succ f =>
        rw [skf_rkf l hz f (n + 1) _ _ (by omega) (by omega) r4 hpn hin]
        obtain ⟨x, y⟩ := cl_no (n := n + 1) (e := n + (rd_T43 l n).f3) (t := pops n t) (by omega)
        have g : gapB l (n + 1) = [] := by unfold gapB; rw [if_neg (fun z => by have := z.2; rw [show n + 1 - 1 = n by omega] at this; omega)]
        rw [x, y, g]
        rfl
    · rw [if_neg c, if_neg c]
      rw [if_neg c] at hin hpn
      cases f with
      | zero =>
        have hall : ∀ e ∈ pops n t, e = n + 1 := fun e he => by
          have := hin.rg e he
          omega
        have hnil : pops (n + 1) (pops n t) = [] := by
          generalize pops n t = u at hall
          induction u with
          | nil => rfl
          | cons a u ih =>
            simp only [pops]
            rw [if_pos (hall a List.mem_cons_self)]
            exact ih (fun e he => hall e (List.mem_cons_of_mem _ he))
        simp only [skf, rkf, hnil]
        unfold cl
        rw [hnil]
        simp
      | succ f =>
        rw [skf_rkf l hz f (n + 1) _ _ (by omega) (by omega) r4 hpn hin]
        have g : gapB l (n + 1) = [32] := by unfold gapB; rw [if_pos ⟨by omega, by rw [show n + 1 - 1 = n by omega]; omega⟩]
        have hne : pops (n + 1) (pops n t) ≠ [] := pops_ne (hin.root (by omega) (by omega)) (by omega)
        rw [g, if_neg hne, List.append_assoc]
/-- Bytes, as numbers. -/
def nums (u : List UInt8) : List Int := u.map fun b => (b.toNat : Int)
theorem nums_app (u v : List UInt8) : nums (u ++ v) = nums u ++ nums v := by simp [nums]
theorem nums_len (u : List UInt8) : (nums u).length = u.length := by simp [nums]
theorem str_nums (u : List UInt8) : strOfNums (nums u) = ⟨u.toArray⟩ := by
  unfold strOfNums nums
  congr 2
  rw [List.map_map]
  conv => rhs; rw [← List.map_id u]
  apply List.map_congr_left
  intro b _
  simp
theorem ref_pop (l : List S43) (n : Int) (hn0 : 0 ≤ n) (hn : n + 1 ≤ 9223372036854775807) (r : ByteArray) : ∀ (t : List Int) (out : List UInt8), t.length < 4398046511104 → out.length + t.length + 1 < 140737488355328 →
    Ev (fun k => monikerref4_Sketch.l0 k (nums (out ++ cl (n + 1) t ++ (if pops (n + 1) t = [] then [] else [32]))) (pops (n + 1) t).reverse (n + 1) l) r → Ev (fun k => monikerref4_Sketch.l1 k (nums out) t.reverse n l) r
  | [], out, h1, h2, h => by
    have e : cl (n + 1) [] = [] := rfl
    have e2 : pops (n + 1) [] = [] := rfl
    rw [e, e2, if_pos rfl, List.append_nil, List.append_nil] at h
    refine Ev.step (fun k => ?_) h
    rw [monikerref4_Sketch.l1, if_neg (by simp), w64' (by omega) hn]
  | e :: t, out, h1, h2, h => by
    simp only [List.length_cons] at h1 h2
    obtain ⟨a, b, c⟩ := rev_last e t (by omega)
    have q0 : (((e :: t).reverse.length : Nat) : Int) > 0 := by rw [List.length_reverse, List.length_cons]; omega
    have q1 : (0 : Int) ≤ (t.length : Int) := by omega
    have q2 : (t.length : Int) < (((e :: t).reverse.length : Nat) : Int) := by rw [List.length_reverse, List.length_cons]; omega
    have q3 : (t.length : Int) ≤ (((e :: t).reverse.length : Nat) : Int) := by omega
    have hw : wrap64 (n + 1) = n + 1 := w64' (by omega) hn
    have q4 : (nums out).length < 140737488355328 := by rw [nums_len]; omega
    by_cases ce : e = n + 1
    · subst ce
      have hp : pops (n + 1) ((n + 1) :: t) = pops (n + 1) t := by simp only [pops]; rw [if_pos trivial]
      rw [cl_cons_same, hp] at h
      have h' : Ev (fun k => monikerref4_Sketch.l0 k (nums ((out ++ [41]) ++ cl (n + 1) t ++ (if pops (n + 1) t = [] then [] else [32]))) (pops (n + 1) t).reverse (n + 1) l) r := by
        have e3 : (out ++ [41]) ++ cl (n + 1) t = out ++ 41 :: cl (n + 1) t := by simp
        rw [e3]
        exact h
      have e4 : nums out ++ [41] = nums (out ++ [41]) := by simp [nums]
      refine Ev.step (fun k => ?_) (ref_pop l n hn0 hn r t (out ++ [41]) (by omega) (by rw [List.length_append, List.length_singleton]; omega) h')
      rw [monikerref4_Sketch.l1, if_pos q0, a, if_pos q1, if_pos q2, hw, if_pos b, if_pos q4, if_pos q3, Int.toNat_natCast, c, e4]
    · obtain ⟨x, y⟩ := cl_no (t := t) ce
      rw [x, y, if_neg (by simp), List.append_nil] at h
      have e4 : nums out ++ [32] = nums (out ++ [32]) := by simp [nums]
      refine Ev.step (fun k => ?_) h
      rw [monikerref4_Sketch.l1, if_pos q0, a, if_pos q1, if_pos q2, hw, if_neg (by rw [b]; exact ce), if_pos q4, e4]
theorem ref_l0 (l : List S43) (hl : l.length < 4398046511104) (hk : ∀ x ∈ l, 0 ≤ x.f0 ∧ x.f0 ≤ 255) (hz : (rd_T43 l 0).f3 = (l.length : Int)) : ∀ (f : Nat) (n : Int) (t s : List Int) (out : List UInt8), n + f = (l.length : Int) → 0 ≤ n → run l f n s = true → pops n s = pops n t → SInv l n t →
    (out.length : Int) + (pops n t).length ≤ 24 * n → ((pops n t).length : Int) ≤ n → Ev (fun k => monikerref4_Sketch.l0 k (nums out) (pops n t).reverse n l) ⟨(out ++ rkf l f n (pops n t)).toArray⟩
  | 0, n, t, s, out, hf, h0, hr, hp, hi, hb, ht => by
    refine Ev.step (f := fun _ => some ⟨(out ++ rkf l 0 n (pops n t)).toArray⟩) (fun k => ?_) (Ev.now _)
    rw [monikerref4_Sketch.l0, if_neg (by omega), str_nums]
    simp [rkf]
  | f + 1, n, t, s, out, hf, h0, hr, hp, hi, hb, ht => by
    have hn : n < (l.length : Int) := by omega
    obtain ⟨r1, r2, r3, r4⟩ := run_out hr
    rw [hp] at r3 r4
    have hx : rd_T43 l n ∈ l := by
      have e : rd_T43 l n = l[n.toNat]'(by omega) := by simp [rd_T43, List.getD_eq_getElem?_getD, show n.toNat < l.length by omega]
      rw [e]; exact List.getElem_mem _
    have hk0 := (hk _ hx).1
    have hin := hi.next h0 hn r2 r3 hz
    have hpn := pops_next (l := l) (n := n) (u := pops n t) r2
    have hnl := nmB_len hk0 r1
    have hw : wrap64 (n + 1) = n + 1 := w64' (by omega) (by omega)
    have hE := endOf_le (n := n) (l := l) (t := pops n t) (fun e he => (hi.rg e (pops_mem he)).2)
    have hwe : wrap64 (n + (rd_T43 l n).f3) = n + (rd_T43 l n).f3 := w64' (by omega) (by omega)
    have e1 : nums out ++ bytesOf (rdOf ByteArray.empty tabG1 (rd_T43 l n).f0) = nums (out ++ nmB (rd_T43 l n)) := by rw [nums_app]; rfl
    have e2 : (rdOf ByteArray.empty tabG1 (rd_T43 l n).f0).size = (nmB (rd_T43 l n)).length := by unfold nmB; rw [Array.length_toList]; rfl
    have q1 : (nums out).length + (nmB (rd_T43 l n)).length < 140737488355328 := by rw [nums_len]; omega
    have q2 : (nums (out ++ nmB (rd_T43 l n))).length < 140737488355328 := by rw [nums_len, List.length_append]; omega
    have q3 : ((pops n t).reverse).length < 17592186044416 := by rw [List.length_reverse]; omega
    simp only [rkf]
    by_cases c : (rd_T43 l n).f3 > 1
    · rw [if_pos c] at hin hpn ⊢
      obtain ⟨x, y⟩ := cl_no (n := n + 1) (e := n + (rd_T43 l n).f3) (t := pops n t) (by omega)
      have ih := ref_l0 l hl hk hz f (n + 1) _ _ (out ++ nmB (rd_T43 l n) ++ [40]) (by omega) (by omega) r4 hpn hin (by rw [y]; simp only [List.length_append, List.length_cons, List.length_nil]; omega) (by rw [y, List.length_cons]; omega)
      rw [y] at ih
      have e3 : out ++ nmB (rd_T43 l n) ++ [40] ++ rkf l f (n + 1) ((n + (rd_T43 l n).f3) :: pops n t) = out ++ (nmB (rd_T43 l n) ++ 40 :: rkf l f (n + 1) ((n + (rd_T43 l n).f3) :: pops n t)) := by simp
      rw [e3] at ih
      have e4 : nums (out ++ nmB (rd_T43 l n)) ++ [40] = nums (out ++ nmB (rd_T43 l n) ++ [40]) := by simp [nums]
      refine Ev.step (fun k => ?_) ih
      rw [monikerref4_Sketch.l0, if_pos hn, if_pos h0, if_pos hk0, if_pos r1, e2, if_pos q1, e1, Option.bind_some, if_pos c, if_pos q2, if_pos q3, hw, hwe, e4, List.reverse_cons]
    · rw [if_neg c] at hin hpn ⊢
      have hcl := cl_len (n + 1) (pops n t)
      have ih := ref_l0 l hl hk hz f (n + 1) _ _ (out ++ nmB (rd_T43 l n) ++ cl (n + 1) (pops n t) ++ (if pops (n + 1) (pops n t) = [] then [] else [32])) (by omega) (by omega) r4 hpn hin (by
        have : (if pops (n + 1) (pops n t) = [] then ([] : List UInt8) else [32]).length ≤ 1 := by split <;> simp
        simp only [List.length_append]; omega) (by omega)
      have e3 : out ++ nmB (rd_T43 l n) ++ cl (n + 1) (pops n t) ++ (if pops (n + 1) (pops n t) = [] then [] else [32]) ++ rkf l f (n + 1) (pops (n + 1) (pops n t)) = out ++ (nmB (rd_T43 l n) ++ (cl (n + 1) (pops n t) ++ ((if pops (n + 1) (pops n t) = [] then [] else [32]) ++ rkf l f (n + 1) (pops (n + 1) (pops n t))))) := by simp
      rw [e3] at ih
      refine Ev.step (f := fun k => monikerref4_Sketch.l1 k (nums (out ++ nmB (rd_T43 l n))) (pops n t).reverse n l) (fun k => ?_) (ref_pop l n h0 (by omega) _ (pops n t) _ (by omega) (by rw [List.length_append]; omega) ih)
      rw [monikerref4_Sketch.l0, if_pos hn, if_pos h0, if_pos hk0, if_pos r1, e2, if_pos q1, e1, Option.bind_some, if_neg c]
/-- A shape's text. -/
def skT (l : List S43) : ByteArray := if shapedB l = true then ⟨(skf l l.length 0 []).toArray⟩ else ⟨#[]⟩
theorem SInv.zero (l : List S43) : SInv l 0 [] := ⟨(fun e h => by cases h), List.Pairwise.nil, fun h => absurd h (by omega)⟩
theorem shaped_out {l : List S43} (h : shapedB l = true) : 0 < l.length ∧ (rd_T43 l 0).f3 = (l.length : Int) ∧ run l l.length 0 [] = true := by
  unfold shapedB at h
  simp only [Bool.and_eq_true, decide_eq_true_eq] at h
  refine ⟨h.1, h.2.1, ?_⟩
  rw [run_all l h.1 h.2.1]
  exact h.2.2
theorem Sketch_is (l : List S43) (hl : l.length < 4398046511104) (hk : ∀ x ∈ l, 0 ≤ x.f0 ∧ x.f0 ≤ 255) : Ev (fun k => tree_Sketch.f k l) (skT l) := by
  unfold tree_Sketch.f skT
  refine Ev.bind (shaped_is l (by omega)) ?_
  by_cases h : shapedB l = true
  · obtain ⟨h1, h2, h3⟩ := shaped_out h
    simp only [if_pos h]
    have := prog_l0 l hl hk h2 l.length 0 [] [] [] (by omega) (by omega) h3 rfl (SInv.zero l) (by simp) (by simp)
    exact Ev.bind this (Ev.now _)
  · simp only [if_neg h]
    exact Ev.now _
theorem RSketch_is (l : List S43) (hl : l.length < 4398046511104) (hk : ∀ x ∈ l, 0 ≤ x.f0 ∧ x.f0 ≤ 255) : Ev (fun k => monikerref4_Sketch.f k l) (skT l) := by
  unfold monikerref4_Sketch.f skT
  refine Ev.bind (RShaped_is l (by omega) hk) ?_
  by_cases h : shapedB l = true
  · obtain ⟨h1, h2, h3⟩ := shaped_out h
    simp only [if_pos h]
    have := ref_l0 l hl hk h2 l.length 0 [] [] [] (by omega) (by omega) h3 rfl (SInv.zero l) (by simp [pops]) (by simp [pops])
    have e : skf l l.length 0 [] = [] ++ rkf l l.length 0 (pops 0 []) := by
      obtain ⟨f, hf⟩ : ∃ f, l.length = f + 1 := ⟨l.length - 1, by omega⟩
      rw [hf] at h3 ⊢
      rw [skf_rkf l h2 f 0 [] [] (by omega) (by omega) h3 rfl (SInv.zero l)]
      have g : gapB l 0 = [] := by unfold gapB; rw [if_neg (by omega)]
      rw [g]
      rfl
    rw [e]
    exact this
  · simp only [if_neg h]
    exact Ev.now _
end Go.Proofs.YtodldpdnhcafpaaDoor.Q

-- The tables of the kinds' names as the row's condition lays them
namespace Go.Proofs.YtodldpdnhcafpaaDoor.H
open Go.ChangeShapes Go.WideShapes Go.ChangeAt Go.RowKit Go.Proofs.YtodldpdnhcafpaaDoor.F Go.Proofs.YtodldpdnhcafpaaDoorW.PrintWords
set_option linter.unusedVariables false
set_option linter.unusedSimpArgs false
theorem gKinds : Tryd.prog.globalNamed "moniker/tree.kinds" = some 0 := by kernel_rfl
theorem gNames : Tryd.prog.globalNamed "moniker/monikerref4.names" = some 1 := by kernel_rfl
theorem tKinds : (Tryd.prog.globals[0]?).map (·.type) = some 87 := by kernel_rfl
theorem tNames : (Tryd.prog.globals[1]?).map (·.type) = some 87 := by kernel_rfl
theorem tgc9 : Tryd.prog.cellsOf 9 = 1 := by kernel_rfl
/-- The words of a laid datum. -/
def words (d : DataW Unit) : List (List UInt8) := match d with | .agg l => l.map (fun x => match x with | .lit (.string b) => b | _ => []) | _ => []
theorem words_kinds : words Rows.laid_moniker_tree_kinds = tabG0.map (·.data.toList) := by kernel_rfl
theorem words_names : words Rows.laid_moniker_monikerref4_names = tabG0.map (·.data.toList) := by kernel_rfl
theorem row_of {W : World} {g f : Nat} {nm : String} {cs : Array Value} {d : DataW Unit} {p : List MemPlace} (hg : Tryd.prog.globalNamed nm = some g) (hv : W.var? Tryd.prog nm = some cs)
    (hd : DataW.trod (fun _ => ()) Tryd.prog W 0 (fun _ => true) false f 87 cs.toList = some (d, p)) (hw : words d = tabG0.map (·.data.toList)) : Kd.string.C W (some ⟨g, 0, none⟩) 58 tabG0 := by
  obtain ⟨xs, m1, rfl, hx1, hlen, hn, hel⟩ := DataW.trod_array Tryd.underlying87 hd
  simp only [Prod.mk.injEq] at hx1
  obtain ⟨rfl, _⟩ := hx1
  refine Kd.C_of_reads (d := ByteArray.empty) ⟨tab_len, by decide, fun _ => ⟨_, rfl, fun j hj => ?_⟩⟩
  have e1 := hel j hj
  rw [tgc9, Nat.mul_one] at e1
  obtain ⟨y, hy⟩ : ∃ y, xs[j]? = some y := ⟨xs[j]'(by omega), List.getElem?_eq_getElem (by omega)⟩
  rw [hy] at e1
  obtain ⟨t, ht, rfl, _⟩ := DataW.trod_string Tryd.underlying9 e1
  have hc : cs.toList[j]? = some (.string t) := by
    have : ((cs.toList.drop j).take 1)[0]? = some (.string t) := by rw [ht]; rfl
    rw [List.getElem?_take_of_lt (by omega), List.getElem?_drop] at this
    simpa using this
  have hn2 : j < tabG0.length := by rw [tab_len]; exact hj
  have hw2 : (words (DataW.agg (xs.map (·.1))))[j]? = some t.data.toList := by
    unfold words
    rw [List.getElem?_map, List.getElem?_map, hy]
    rfl
  rw [hw, List.getElem?_map, List.getElem?_eq_getElem hn2] at hw2
  have hd2 : tabG0[j].data.toList = t.data.toList := Option.some.inj hw2
  have het : tabG0[j] = t := ByteArray.ext (Array.ext' hd2)
  rw [List.getD_eq_getElem?_getD, List.getElem?_eq_getElem hn2, Option.getD_some, het]
  have hcell := World.var?_cell hg hv j
  rw [Addr.add_mid, Nat.zero_add, hcell]
  simpa using hc
theorem sg_of_laid {W : World} (h : laidMetH Tryd.prog [("moniker/monikerref4.names", Rows.laid_moniker_monikerref4_names), ("moniker/tree.kinds", Rows.laid_moniker_tree_kinds)] W) : SG W := by
  rw [MakeChecks.laidMetH_plain _ _ _ (by kernel_rfl)] at h
  obtain ⟨ps, ⟨g1, t1, cs1, f1, p1, q1, hg1, ht1, hv1, hd1, hrest, _⟩, _, _⟩ := h
  obtain ⟨g0, t0, cs0, f0, p0, q0, hg0, ht0, hv0, hd0, _, _⟩ := hrest
  obtain rfl := Option.some.inj (gNames.symm.trans hg1)
  obtain rfl := Option.some.inj (tNames.symm.trans ht1)
  obtain rfl := Option.some.inj (gKinds.symm.trans hg0)
  obtain rfl := Option.some.inj (tKinds.symm.trans ht0)
  exact ⟨row_of gKinds hv0 hd0 words_kinds, row_of gNames hv1 hd1 words_names⟩
end Go.Proofs.YtodldpdnhcafpaaDoor.H

namespace Go.Proofs.YtodldpdnhcafpaaDoor.H
open Go.RowKit Go.Proofs.YtodldpdnhcafpaaDoorW.PrintWords Go.Proofs.YtodldpdnhcafpaaDoorW.PrintLast Go.Proofs.YtodldpdnhcafpaaDoorW.PrintMore
open Go.Proofs.YtodldpdnhcafpaaDoor.F
set_option linter.unusedVariables false
set_option linter.unusedSimpArgs false
theorem Reps.app {α : Type} {R : α → List Value → Prop} {size : Nat} {ps qs : List α} {cs ds : List Value} (h : Reps R size ps cs) (k : Reps R size qs ds) : Reps R size (ps ++ qs) (cs ++ ds) := by
  refine ⟨by rw [List.length_append, h.1, k.1, List.length_append, Nat.add_mul], fun j q hq => ?_⟩
  rcases Nat.lt_or_ge j ps.length with hj | hj
  · rw [List.getElem?_append_left hj] at hq
    have h1 : j * size + size ≤ cs.length := by rw [h.1, ← Nat.succ_mul]; exact Nat.mul_le_mul_right _ hj
    have h2 := h.2 j q hq
    rw [List.drop_append_of_le_length (by omega), List.take_append_of_le_length (by rw [List.length_drop]; omega)]
    exact h2
  · rw [List.getElem?_append_right hj] at hq
    have h2 := k.2 _ q hq
    have e : j * size = cs.length + (j - ps.length) * size := by rw [h.1, ← Nat.add_mul]; congr 1; omega
    rw [e, List.drop_append, List.drop_eq_nil_of_le (by omega), List.nil_append, Nat.add_sub_cancel_left]
    exact h2

theorem row_cells68 {w : World} {A : Option Addr} {l : List S68} (hr : Kd.C k68 w A l.length l) :
    ∃ inner, Reps (k68.K w) 3 l inner ∧ (A = none → l.length = 0) ∧ ∀ ad, A = some ad → ∀ j u, inner[j]? = some u → w.cell? (ad.add j) = some u := by
  cases A with
  | none =>
    have h0 : l.length = 0 := by
      rcases Nat.eq_zero_or_pos l.length with h | h
      · exact h
      · obtain ⟨ad, e, _⟩ := hr.2.2 h
        cases e
    obtain rfl := List.eq_nil_of_length_eq_zero h0
    exact ⟨[], Reps.none _ _, fun _ => h0, (fun ad e => by cases e)⟩
  | some ad =>
    obtain ⟨inner, h1, h2⟩ := ReadsRow.inner_ (R := k68.K w) (size := 3) hr
    exact ⟨inner, h1, (fun e => by cases e), fun ad2 e => by cases e; exact h2⟩
theorem row_one68 {w : World} {l : List S68} {inner : List Value} (h : Reps (k68.K w) 3 l inner) : ∀ u ∈ inner, u.oneCell' = true := by
  intro u hu
  obtain ⟨i, hi, rfl⟩ := List.mem_iff_getElem.1 hu
  have hj : i / 3 < l.length := by have := h.1; omega
  have hk := h.2 (i / 3) (l[i / 3]'hj) (List.getElem?_eq_getElem hj)
  refine k68.K_one hk _ ?_
  rw [List.mem_iff_getElem]
  refine ⟨i % 3, by rw [List.length_take, List.length_drop]; have := h.1; omega, ?_⟩
  rw [List.getElem_take, List.getElem_drop]
  congr 1
  omega
def marks68 : List S68 := [⟨0, -5, -6⟩, ⟨77, 0, 0⟩]
def mcells68 : List Value := [.int .u8 0, .int .i64 (-5), .int .i64 (-6), .int .u8 77, .int .i64 0, .int .i64 0]
theorem mcell68 (w2 : World) (j : Nat) (u : Value) (hu : mcells68[j]? = some u) : (w2.alloc (.cells mcells68.toArray 68)).cell? ((⟨w2.heap.size, 0, none⟩ : Addr).add j) = some u := by
  rw [add_plain, World.cell?_alloc_new]; simpa using hu
theorem mcells68_one : ∀ u ∈ mcells68, u.oneCell' = true := by simp [mcells68, Value.oneCell']
theorem reps_marks68 (w : World) : Reps (k68.K w) 3 marks68 mcells68 := by
  refine ⟨rfl, fun j p hj => ?_⟩
  match j, hj with
  | 0, hj => cases hj; exact k68_mk w _
  | 1, hj => cases hj; exact k68_mk w _
  | j + 2, hj => simp [marks68] at hj
theorem C_of_own68 {w w3 : World} {base g c : Nat} {l : List S68} {inner : List Value} (hR : Reps (k68.K w) 3 l inner) (h : w3.ownsRow base 68 3 (.slice (some ⟨g, 0, none⟩) (l.length + 2) c) (l.length + 2) (inner ++ mcells68)) :
    Kd.C k68 w3 (some ⟨g, 0, none⟩) (l.length + 2) (l ++ marks68) := by
  have hk : ∀ (p : S68) cs, k68.K w p cs → k68.K w3 p cs := fun p cs h => by rw [k68_open h]; exact k68_mk w3 p
  obtain ⟨A, c', he, hrow⟩ := own_reads_row (R := k68.K w3) (ps := l ++ marks68) h (Reps.app (Reps.imp_ hR hk) (reps_marks68 w3)) (by simp [marks68])
  injection he with h1 _ _
  subst h1
  exact hrow
theorem C_lent68 {w : World} {A : Option Addr} {l : List S68} (h : Kd.C k68 w A (l.length + 2) (l ++ marks68)) : Kd.C k68 w A l.length l := by
  have h' : Kd.C k68 w A (l ++ marks68).length (l ++ marks68) := by rw [List.length_append]; exact h
  have h2 := Kd.C_take (m := l.length) h' (by simp)
  simpa using h2

theorem row_cells43 {w : World} {A : Option Addr} {l : List S43} (hr : Kd.C k43 w A l.length l) :
    ∃ inner, Reps (k43.K w) 4 l inner ∧ (A = none → l.length = 0) ∧ ∀ ad, A = some ad → ∀ j u, inner[j]? = some u → w.cell? (ad.add j) = some u := by
  cases A with
  | none =>
    have h0 : l.length = 0 := by
      rcases Nat.eq_zero_or_pos l.length with h | h
      · exact h
      · obtain ⟨ad, e, _⟩ := hr.2.2 h
        cases e
    obtain rfl := List.eq_nil_of_length_eq_zero h0
    exact ⟨[], Reps.none _ _, fun _ => h0, (fun ad e => by cases e)⟩
  | some ad =>
    obtain ⟨inner, h1, h2⟩ := ReadsRow.inner_ (R := k43.K w) (size := 4) hr
    exact ⟨inner, h1, (fun e => by cases e), fun ad2 e => by cases e; exact h2⟩
theorem row_one43 {w : World} {l : List S43} {inner : List Value} (h : Reps (k43.K w) 4 l inner) : ∀ u ∈ inner, u.oneCell' = true := by
  intro u hu
  obtain ⟨i, hi, rfl⟩ := List.mem_iff_getElem.1 hu
  have hj : i / 4 < l.length := by have := h.1; omega
  have hk := h.2 (i / 4) (l[i / 4]'hj) (List.getElem?_eq_getElem hj)
  refine k43.K_one hk _ ?_
  rw [List.mem_iff_getElem]
  refine ⟨i % 4, by rw [List.length_take, List.length_drop]; have := h.1; omega, ?_⟩
  rw [List.getElem_take, List.getElem_drop]
  congr 1
  omega
def marks43 : List S43 := [⟨99, -3, 0, -4⟩, ⟨0, 0, 12345, 0⟩]
def mcells43 : List Value := [.int .u8 99, .int .i64 (-3), .int .i64 0, .int .i64 (-4), .int .u8 0, .int .i64 0, .int .i64 12345, .int .i64 0]
theorem mcell43 (w2 : World) (j : Nat) (u : Value) (hu : mcells43[j]? = some u) : (w2.alloc (.cells mcells43.toArray 43)).cell? ((⟨w2.heap.size, 0, none⟩ : Addr).add j) = some u := by
  rw [add_plain, World.cell?_alloc_new]; simpa using hu
theorem mcells43_one : ∀ u ∈ mcells43, u.oneCell' = true := by simp [mcells43, Value.oneCell']
theorem reps_marks43 (w : World) : Reps (k43.K w) 4 marks43 mcells43 := by
  refine ⟨rfl, fun j p hj => ?_⟩
  match j, hj with
  | 0, hj => cases hj; exact k43_mk w _
  | 1, hj => cases hj; exact k43_mk w _
  | j + 2, hj => simp [marks43] at hj
theorem C_of_own43 {w w3 : World} {base g c : Nat} {l : List S43} {inner : List Value} (hR : Reps (k43.K w) 4 l inner) (h : w3.ownsRow base 43 4 (.slice (some ⟨g, 0, none⟩) (l.length + 2) c) (l.length + 2) (inner ++ mcells43)) :
    Kd.C k43 w3 (some ⟨g, 0, none⟩) (l.length + 2) (l ++ marks43) := by
  have hk : ∀ (p : S43) cs, k43.K w p cs → k43.K w3 p cs := fun p cs h => by rw [k43_open h]; exact k43_mk w3 p
  obtain ⟨A, c', he, hrow⟩ := own_reads_row (R := k43.K w3) (ps := l ++ marks43) h (Reps.app (Reps.imp_ hR hk) (reps_marks43 w3)) (by simp [marks43])
  injection he with h1 _ _
  subst h1
  exact hrow
theorem C_lent43 {w : World} {A : Option Addr} {l : List S43} (h : Kd.C k43 w A (l.length + 2) (l ++ marks43)) : Kd.C k43 w A l.length l := by
  have h' : Kd.C k43 w A (l ++ marks43).length (l ++ marks43) := by rw [List.length_append]; exact h
  have h2 := Kd.C_take (m := l.length) h' (by simp)
  simpa using h2

theorem own_set1 {w : World} {base n : Nat} {e : TypeId} {size : Nat} {v : Value} {xs : List Value} {g : Nat} (h : w.ownsRow base e size v n xs) (hne : v.ownBlock ≠ some g) (j : Nat) (u : Value) : (w.setCell ⟨g, j, none⟩ u).ownsRow base e size v n xs :=
  own_move h (fun k hk => Below.heap_setCell w ⟨g, j, none⟩ u k (by rintro rfl; exact hne hk))
theorem own_set3 {w : World} {base n : Nat} {e : TypeId} {size : Nat} {v : Value} {xs : List Value} {g : Nat} (h : w.ownsRow base e size v n xs) (hne : v.ownBlock ≠ some g) (i j k : Nat) (u u' u'' : Value) : (((w.setCell ⟨g, i, none⟩ u).setCell ⟨g, j, none⟩ u').setCell ⟨g, k, none⟩ u'').ownsRow base e size v n xs :=
  own_set1 (own_set1 (own_set1 h hne i u) hne j u') hne k u''
section
variable {P : Program} {ops : Array Oper} {rest : List Oper} {o : Oper} {a : Act} {Q : Exit → Act → World → Prop}
/-- make([]T, 0, n), the block a letter. -/
theorem make_g {W : World} (hg : o.guard = none) (l c : Operand) (t : TypeId) (hop : o.op = Op.makeSlice t l c) (base : Nat) (e : TypeId) (i : TypeInfo) (z : Value) (size : Nat) (h1 : P.underlying t = some (.slice e)) (h2 : P.info? e = some i) (h3 : i.zero = some z) (h4 : i.size = size)
    (kl kc : IntKind) (C : Int) (n : Nat) (hl : a.eval l = .int kl 0) (hc : a.eval c = .int kc C) (hC : C = (n : Int)) (b2 : i.bytes * n ≤ 281474976710656) (b3 : n ≤ maxLen) (b4 : base ≤ W.heap.size)
    (hK : ∀ g w', W.heap.size ≤ g → w'.ownsRow base e size (.slice (some ⟨g, 0, none⟩) 0 n) 0 [] → W.grownBy w' none → wpList P ops Q rest (a.put o.dst (.slice (some ⟨g, 0, none⟩) 0 n)) w') :
    wpList P ops Q (o :: rest) a W :=
  wpList_make_own W hg l c t hop base e i z size h1 h2 h3 h4 kl kc C n hl hc hC b2 b3 b4 (hK _ · (Nat.le_refl _))
end
 
def LentPost (t : ByteArray) (ps : List S68) (ns : List S43) (w : World) (e : Ending) (w' : World) : Prop :=
  ∃ A B, e = .returned (.agg #[.string t, .slice A ps.length (ps.length + 2), .slice B ns.length (ns.length + 2)]) ∧ Kd.C k68 w' A (ps.length + 2) (ps ++ marks68) ∧ Kd.C k43 w' B (ns.length + 2) (ns ++ marks43) ∧ Below w.heap.size w w'

set_option maxHeartbeats 2000000 in
theorem lent_calls (t : ByteArray) (A1 : Option Addr) (c1 : Nat) (ps : List S68) (A2 : Option Addr) (c2 : Nat) (ns : List S43) (w : World)
    (hr1 : Kd.C k68 w A1 ps.length ps) (hc1 : ps.length ≤ c1) (hn1 : A1 = none → c1 = 0) (hb1 : ps.length * 24 ≤ 140737488351232)
    (hr2 : Kd.C k43 w A2 ns.length ns) (hc2 : ns.length ≤ c2) (hn2 : A2 = none → c2 = 0) (hb2 : ns.length * 32 ≤ 140737488351232) :
    Calls Tryd.prog 10 #[.agg #[.string t, .slice A1 ps.length c1, .slice A2 ns.length c2]] w (LentPost t ps ns w) := by
  have hu68 := Tryd.underlying68
  have hu43 := Tryd.underlying43
  have hu34 := Tryd.underlying34
  have hu24 := Tryd.underlying24
  obtain ⟨i, hi, hz0, hz1, hz2⟩ := info_parts info68
  obtain ⟨i', hi', hz0', hz1', hz2'⟩ := info_parts info43
  obtain ⟨inner, hR, hA, hcell⟩ := row_cells68 hr1
  obtain ⟨inner', hR', hA', hcell'⟩ := row_cells43 hr2
  have HR := Aside0.mk hR
  have hlen : inner.length = ps.length * 3 := hR.1
  have HL := Aside0.mk hlen
  have HC := Aside0.mk hcell
  have HN := Aside0.mk hn1
  have HA := Aside0.mk hA
  have HY := Aside0.mk hz2
  have HI := Aside0.mk hi
  have HZ0 := Aside0.mk hz0
  have HZ1 := Aside0.mk hz1
  have HR' := Aside0.mk hR'
  have hlen' : inner'.length = ns.length * 4 := hR'.1
  have HL' := Aside0.mk hlen'
  have HC' := Aside0.mk hcell'
  have HN' := Aside0.mk hn2
  have HA' := Aside0.mk hA'
  have HY' := Aside0.mk hz2'
  have HI' := Aside0.mk hi'
  have HZ0' := Aside0.mk hz0'
  have HZ1' := Aside0.mk hz1'
  clear hR hcell hr1 hn1 hA hlen hz2 hi hz0 hz1 hR' hcell' hr2 hn2 hA' hlen' hz2' hi' hz0' hz1'
  have hl : ps.length ≤ 5864062014634 := by omega
  have hl' : ns.length ≤ 4398046510976 := by omega
  go_enter Tryd.func10, Tryd.ntmps10
  go_wp2_with (first
    | ((with_reducible refine gate_dst (N := 1) rfl ?_); refine box_event ?hg (N := 1) ?hd (cs := #[.string t, .slice A1 ps.length c1, .slice A2 ns.length c2]) (t := 34) ?hr ?_; (case hd => rfl); (case hg => rfl); (case hr => first | (go_simp; done) | (go_simp; rfl)); intro gb1 hge w1 hbox hb; have BK1 := Aside0.mk hbox; have HB := Aside0.mk hb; clear hbox hge hb; have hx0 : w1.cell? ⟨gb1, 0, none⟩ = some (.string t) := (blk_cell BK1.out 0).trans rfl; have hx1 : w1.cell? ⟨gb1, 1, none⟩ = some (.slice A1 ps.length c1) := (blk_cell BK1.out 1).trans rfl; have hx2 : w1.cell? ⟨gb1, 2, none⟩ = some (.slice A2 ns.length c2) := (blk_cell BK1.out 2).trans rfl)
    | ((with_reducible refine gate_dst (N := 2) rfl ?_); refine box_event ?hg (N := 2) ?hd (cs := #[.string ⟨#[]⟩, .slice none 0 0, .slice none 0 0]) (t := 34) ?hr ?_; (case hd => rfl); (case hg => rfl); (case hr => first | (go_simp; done) | (go_simp; rfl)); intro gb2 hge w2 hbox hb; have BK2 := Aside0.mk hbox; have GE2 := Aside0.mk (show w.heap.size ≤ gb2 by rw [hge]; exact HB.out.size); clear hx0 hx1 hx2; have n0_ := Aside0.mk (blk_below BK1.out hb); have n1_ := Aside0.mk (below_step HB.out hb); clear BK1; clear HB; have BK1 := n0_; have HB := n1_; clear n0_ n1_; clear hbox hge hb; have hx0 : w2.cell? ⟨gb1, 0, none⟩ = some (.string t) := (blk_cell BK1.out 0).trans rfl; have hx1 : w2.cell? ⟨gb1, 1, none⟩ = some (.slice A1 ps.length c1) := (blk_cell BK1.out 1).trans rfl; have hx2 : w2.cell? ⟨gb1, 2, none⟩ = some (.slice A2 ns.length c2) := (blk_cell BK1.out 2).trans rfl)
    | ((with_reducible refine gate_dst (N := 9) rfl ?_); refine make_g rfl _ _ 32 rfl w.heap.size 68 i _ 3 Tryd.underlying32 HI.out HZ0.out HZ1.out _ _ _ (ps.length + 2) rfl rfl (by first | rfl | (simp; done) | omega) (by rw [HY.out]; omega) (by unfold maxLen; omega) HB.out.size ?_; intro ga w3 hge hown hg; have HOa := Aside0.mk hown; have NE1ga := Aside0.mk (Nat.ne_of_lt (Nat.lt_of_lt_of_le (blk_lt BK1.out) hge)); have NE2ga := Aside0.mk (Nat.ne_of_lt (Nat.lt_of_lt_of_le (blk_lt BK2.out) hge)); have GEga := Aside0.mk (Nat.le_trans HB.out.size hge); clear hx0 hx1 hx2; have n0_ := Aside0.mk (blk_grown BK1.out hg (by simp)); have n1_ := Aside0.mk (blk_grown BK2.out hg (by simp)); have n2_ := Aside0.mk (HB.out.grown hg HB.out.size (by simp)); clear BK1; clear BK2; clear HB; have BK1 := n0_; have BK2 := n1_; have HB := n2_; clear n0_ n1_ n2_; clear hown hg hge; have hx0 : w3.cell? ⟨gb1, 0, none⟩ = some (.string t) := (blk_cell BK1.out 0).trans rfl; have hx1 : w3.cell? ⟨gb1, 1, none⟩ = some (.slice A1 ps.length c1) := (blk_cell BK1.out 1).trans rfl; have hx2 : w3.cell? ⟨gb1, 2, none⟩ = some (.slice A2 ns.length c2) := (blk_cell BK1.out 2).trans rfl)
    | ((with_reducible refine gate_dst (N := 13) rfl ?_); refine wpList_append_fits_any _ rfl _ _ 32 rfl w.heap.size 68 i 3 Tryd.underlying32 HI.out HZ1.out ga 0 (ps.length + 2) [] rfl HOa.out A1 ps.length c1 inner rfl HL.out (fun e => ⟨HA.out e, HN.out e⟩) (fun ad e j u hu => pw_cell_below HB.out (HC.out ad e j u hu)) (row_one68 HR.out) (by omega) ?_; intro w4 hown hg; simp only [Nat.zero_add, List.nil_append] at hown; clear HOa; have HOa := Aside0.mk hown; clear hx0 hx1 hx2; have n0_ := Aside0.mk (blk_grown BK1.out hg (by simpa using NE1ga.out)); have n1_ := Aside0.mk (blk_grown BK2.out hg (by simpa using NE2ga.out)); have n2_ := Aside0.mk (HB.out.grown hg HB.out.size (by rintro k ⟨⟩; exact GEga.out)); clear BK1; clear BK2; clear HB; have BK1 := n0_; have BK2 := n1_; have HB := n2_; clear n0_ n1_ n2_; clear hown hg; have hx0 : w4.cell? ⟨gb1, 0, none⟩ = some (.string t) := (blk_cell BK1.out 0).trans rfl; have hx1 : w4.cell? ⟨gb1, 1, none⟩ = some (.slice A1 ps.length c1) := (blk_cell BK1.out 1).trans rfl; have hx2 : w4.cell? ⟨gb1, 2, none⟩ = some (.slice A2 ns.length c2) := (blk_cell BK1.out 2).trans rfl; rw [Nat.zero_add])
    | ((with_reducible refine gate_dst (N := 18) rfl ?_); refine wpList_append_fits _ rfl _ _ 32 rfl w.heap.size 68 i 3 Tryd.underlying32 HI.out HZ1.out ga ps.length (ps.length + 2) inner rfl (HOa.out.alloc _) ⟨w4.heap.size, 0, none⟩ 2 2 mcells68 rfl rfl (fun j u hu => mcell68 w4 j u hu) mcells68_one (by omega) ?_; intro w5 hown hg; clear HOa; have HOa := Aside0.mk hown; clear hx0 hx1 hx2; have n0_ := Aside0.mk (blk_grown (blk_alloc BK1.out (.cells mcells68.toArray 68)) hg (by simpa using NE1ga.out)); have n1_ := Aside0.mk (blk_grown (blk_alloc BK2.out (.cells mcells68.toArray 68)) hg (by simpa using NE2ga.out)); have n2_ := Aside0.mk ((below_alloc HB.out (.cells mcells68.toArray 68)).grown hg (below_alloc HB.out (.cells mcells68.toArray 68)).size (by rintro k ⟨⟩; exact GEga.out)); clear BK1; clear BK2; clear HB; have BK1 := n0_; have BK2 := n1_; have HB := n2_; clear n0_ n1_ n2_; clear hown hg; have hx0 : w5.cell? ⟨gb1, 0, none⟩ = some (.string t) := (blk_cell BK1.out 0).trans rfl; have hx1 : w5.cell? ⟨gb1, 1, none⟩ = some (.slice A1 ps.length c1) := (blk_cell BK1.out 1).trans rfl; have hx2 : w5.cell? ⟨gb1, 2, none⟩ = some (.slice A2 ns.length c2) := (blk_cell BK1.out 2).trans rfl)
    | ((with_reducible refine gate_dst (N := 24) rfl ?_); refine make_g rfl _ _ 22 rfl w.heap.size 43 i' _ 4 Tryd.underlying22 HI'.out HZ0'.out HZ1'.out _ _ _ (ns.length + 2) rfl rfl (by first | rfl | (simp; done) | omega) (by rw [HY'.out]; omega) (by unfold maxLen; omega) HB.out.size ?_; intro gc w6 hge hown hg; have HOb := Aside0.mk hown; have NE1gc := Aside0.mk (Nat.ne_of_lt (Nat.lt_of_lt_of_le (blk_lt BK1.out) hge)); have NE2gc := Aside0.mk (Nat.ne_of_lt (Nat.lt_of_lt_of_le (blk_lt BK2.out) hge)); have GEgc := Aside0.mk (Nat.le_trans HB.out.size hge); have NEa := Aside0.mk (Nat.ne_of_lt (Nat.lt_of_lt_of_le (own_lt HOa.out ga rfl) hge)); clear hx0 hx1 hx2; have n0_ := Aside0.mk (blk_grown BK1.out hg (by simp)); have n1_ := Aside0.mk (blk_grown BK2.out hg (by simp)); have n2_ := Aside0.mk (HB.out.grown hg HB.out.size (by simp)); have n3_ := Aside0.mk (HOa.out.kept hg (.inr (by simp [Value.ownBlock]))); clear BK1; clear BK2; clear HB; clear HOa; have BK1 := n0_; have BK2 := n1_; have HB := n2_; have HOa := n3_; clear n0_ n1_ n2_ n3_; clear hown hg hge; have hx0 : w6.cell? ⟨gb1, 0, none⟩ = some (.string t) := (blk_cell BK1.out 0).trans rfl; have hx1 : w6.cell? ⟨gb1, 1, none⟩ = some (.slice A1 ps.length c1) := (blk_cell BK1.out 1).trans rfl; have hx2 : w6.cell? ⟨gb1, 2, none⟩ = some (.slice A2 ns.length c2) := (blk_cell BK1.out 2).trans rfl)
    | ((with_reducible refine gate_dst (N := 29) rfl ?_); refine wpList_append_fits_any _ rfl _ _ 22 rfl w.heap.size 43 i' 4 Tryd.underlying22 HI'.out HZ1'.out gc 0 (ns.length + 2) [] rfl HOb.out A2 ns.length c2 inner' rfl HL'.out (fun e => ⟨HA'.out e, HN'.out e⟩) (fun ad e j u hu => pw_cell_below HB.out (HC'.out ad e j u hu)) (row_one43 HR'.out) (by omega) ?_; intro w7 hown hg; simp only [Nat.zero_add, List.nil_append] at hown; clear HOb; have HOb := Aside0.mk hown; clear hx0 hx1 hx2; have n0_ := Aside0.mk (blk_grown BK1.out hg (by simpa using NE1gc.out)); have n1_ := Aside0.mk (blk_grown BK2.out hg (by simpa using NE2gc.out)); have n2_ := Aside0.mk (HB.out.grown hg HB.out.size (by rintro k ⟨⟩; exact GEgc.out)); have n3_ := Aside0.mk (HOa.out.kept hg (.inr (by simpa [Value.ownBlock] using NEa.out))); clear BK1; clear BK2; clear HB; clear HOa; have BK1 := n0_; have BK2 := n1_; have HB := n2_; have HOa := n3_; clear n0_ n1_ n2_ n3_; clear hown hg; have hx0 : w7.cell? ⟨gb1, 0, none⟩ = some (.string t) := (blk_cell BK1.out 0).trans rfl; have hx1 : w7.cell? ⟨gb1, 1, none⟩ = some (.slice A1 ps.length c1) := (blk_cell BK1.out 1).trans rfl; have hx2 : w7.cell? ⟨gb1, 2, none⟩ = some (.slice A2 ns.length c2) := (blk_cell BK1.out 2).trans rfl; rw [Nat.zero_add])
    | ((with_reducible refine gate_dst (N := 34) rfl ?_); refine wpList_append_fits _ rfl _ _ 22 rfl w.heap.size 43 i' 4 Tryd.underlying22 HI'.out HZ1'.out gc ns.length (ns.length + 2) inner' rfl (HOb.out.alloc _) ⟨w7.heap.size, 0, none⟩ 2 2 mcells43 rfl rfl (fun j u hu => mcell43 w7 j u hu) mcells43_one (by omega) ?_; intro w8 hown hg; clear HOb; have HOb := Aside0.mk hown; clear hx0 hx1 hx2; have n0_ := Aside0.mk (blk_grown (blk_alloc BK1.out (.cells mcells43.toArray 43)) hg (by simpa using NE1gc.out)); have n1_ := Aside0.mk (blk_grown (blk_alloc BK2.out (.cells mcells43.toArray 43)) hg (by simpa using NE2gc.out)); have n2_ := Aside0.mk ((below_alloc HB.out (.cells mcells43.toArray 43)).grown hg (below_alloc HB.out (.cells mcells43.toArray 43)).size (by rintro k ⟨⟩; exact GEgc.out)); have n3_ := Aside0.mk ((HOa.out.alloc (.cells mcells43.toArray 43)).kept hg (.inr (by simpa [Value.ownBlock] using NEa.out))); clear BK1; clear BK2; clear HB; clear HOa; have BK1 := n0_; have BK2 := n1_; have HB := n2_; have HOa := n3_; clear n0_ n1_ n2_ n3_; clear hown hg; have hx0 : w8.cell? ⟨gb1, 0, none⟩ = some (.string t) := (blk_cell BK1.out 0).trans rfl; have hx1 : w8.cell? ⟨gb1, 1, none⟩ = some (.slice A1 ps.length c1) := (blk_cell BK1.out 1).trans rfl; have hx2 : w8.cell? ⟨gb1, 2, none⟩ = some (.slice A2 ns.length c2) := (blk_cell BK1.out 2).trans rfl; have hy0 : w8.cell? ⟨gb2, 0, none⟩ = some (.string ⟨#[]⟩) := (blk_cell BK2.out 0).trans rfl; have hz0 := blk_frozen BK2.out 0; have hy1 : w8.cell? ⟨gb2, 1, none⟩ = some (.slice none 0 0) := (blk_cell BK2.out 1).trans rfl; have hz1 := blk_frozen BK2.out 1; have hy2 : w8.cell? ⟨gb2, 2, none⟩ = some (.slice none 0 0) := (blk_cell BK2.out 2).trans rfl; have hz2 := blk_frozen BK2.out 2))
  go_region
  go_wp2
  have hfin : ((((w8.setCell ⟨gb2, 0, none⟩ (.string t)).setCell ⟨gb2, 1, none⟩ (.slice (some ⟨ga, 0, none⟩) ps.length (ps.length + 2))).setCell ⟨gb2, 2, none⟩ (.slice (some ⟨gc, 0, none⟩) ns.length (ns.length + 2))).drew).heap[gb2]? = some (.cells #[.string t, .slice (some ⟨ga, 0, none⟩) ps.length (ps.length + 2), .slice (some ⟨gc, 0, none⟩) ns.length (ns.length + 2)] 34 (0, 0)) := by
    refine blk_drew ?_
    refine blk_put (cs := #[.string t, .slice (some ⟨ga, 0, none⟩) ps.length (ps.length + 2), .slice none 0 0]) ?_ 2 _ rfl
    refine blk_put (cs := #[.string t, .slice none 0 0, .slice none 0 0]) ?_ 1 _ rfl
    refine blk_put (cs := #[.string ⟨#[]⟩, .slice none 0 0, .slice none 0 0]) ?_ 0 _ rfl
    exact BK2.out
  refine bodyPost_ret (results_cell_row rfl _ _ gb2 34 #[.string t, .slice (some ⟨ga, 0, none⟩) ps.length (ps.length + 2), .slice (some ⟨gc, 0, none⟩) ns.length (ns.length + 2)] (0, 0) _ rfl hfin Tryd.underlying34 rfl (by kernel_rfl)) rfl ?_
  have hb8 : Below w.heap.size w ((((w8.setCell ⟨gb2, 0, none⟩ (.string t)).setCell ⟨gb2, 1, none⟩ (.slice (some ⟨ga, 0, none⟩) ps.length (ps.length + 2))).setCell ⟨gb2, 2, none⟩ (.slice (some ⟨gc, 0, none⟩) ns.length (ns.length + 2))).drew) := by
    refine below_drew ?_
    refine below_set ?_ GE2.out
    refine below_set ?_ GE2.out
    refine below_set ?_ GE2.out
    exact HB.out
  have na : (some gb2 : Option Nat) ≠ some ga := by simpa using NE2ga.out
  have nc : (some gb2 : Option Nat) ≠ some gc := by simpa using NE2gc.out
  have ra := (own_set3 HOa.out (by simpa [Value.ownBlock] using Ne.symm na) 0 1 2 (.string t) (.slice (some ⟨ga, 0, none⟩) ps.length (ps.length + 2)) (.slice (some ⟨gc, 0, none⟩) ns.length (ns.length + 2))).drew
  have rc := (own_set3 HOb.out (by simpa [Value.ownBlock] using Ne.symm nc) 0 1 2 (.string t) (.slice (some ⟨ga, 0, none⟩) ps.length (ps.length + 2)) (.slice (some ⟨gc, 0, none⟩) ns.length (ns.length + 2))).drew
  exact ⟨_, _, rfl, C_of_own68 HR.out ra, C_of_own43 HR'.out rc, hb8⟩
end Go.Proofs.YtodldpdnhcafpaaDoor.H

-- A text of this session's own program (wip/myprint.sh over a changed print tool): functions and their walks
namespace Go.Proofs.YtodldpdnhcafpaaDoor.F
open Go.RowKit Go.Proofs.YtodldpdnhcafpaaDoorW.PrintWords Go.Proofs.YtodldpdnhcafpaaDoorW.PrintLast Go.Proofs.YtodldpdnhcafpaaDoorW.PrintMore
attribute [local go_sem] max2_int min2_int max_two min_two max_three min_three max_four min_four   -- for this text's walks alone
set_option linter.unusedVariables false
set_option linter.unusedSimpArgs false

theorem eqA68 (d : Nat) (w : World) (x0 y0 : Int) (x1 y1 : Int) (x2 y2 : Int) :
    (Op.equalIn (d + 2) 68 (.agg #[.int .u8 x0, .int .i64 x1, .int .i64 x2]) (.agg #[.int .u8 y0, .int .i64 y1, .int .i64 y2])).run Tryd.prog w = .ok (x0 == y0 && (x1 == y1 && (x2 == y2))) w := by
  refine eqA_of Tryd.underlying68 (by kernel_rfl) ?_
  refine eqf_cons (by rfl) (by go_simp; rfl) (by go_simp; rfl) (by go_simp) ?_
  refine eqf_cons (by rfl) (by go_simp; rfl) (by go_simp; rfl) (by go_simp) ?_
  exact eqf_last (by rfl) (by go_simp; rfl) (by go_simp; rfl) (by go_simp)
end Go.Proofs.YtodldpdnhcafpaaDoor.F

-- A text of this session's own program (wip/myprint.sh over a changed print tool): functions and their walks
namespace Go.Proofs.YtodldpdnhcafpaaDoor.F
open Go.RowKit Go.Proofs.YtodldpdnhcafpaaDoorW.PrintWords Go.Proofs.YtodldpdnhcafpaaDoorW.PrintLast Go.Proofs.YtodldpdnhcafpaaDoorW.PrintMore
attribute [local go_sem] max2_int min2_int max_two min_two max_three min_three max_four min_four   -- for this text's walks alone
set_option linter.unusedVariables false
set_option linter.unusedSimpArgs false

attribute [local go_sem high] eqA68
/-! ### monikerplain_SameTokens: function 43 -/
def monikerplain_SameTokens.l0 : Nat → List (S68) → List (S68) → Int → Int → Option (Bool)
  | 0, _, _, _, _ => none
  | k + 1, x0, x1, x12, x13 => if x13 < x12 then (if 0 ≤ x13 then (if x13 < (x0.length : Int) then (if x13 < (x1.length : Int) then (if (!(((rd_T68 x0 x13).f0) == ((rd_T68 x1 x13).f0)) || (!(((rd_T68 x0 x13).f1) == ((rd_T68 x1 x13).f1)) || (!(((rd_T68 x0 x13).f2) == ((rd_T68 x1 x13).f2))))) = true then (some false) else (monikerplain_SameTokens.l0 k x0 x1 x12 (wrap64 (x13 + 1)))) else (none)) else (none)) else (none)) else (some true)
def monikerplain_SameTokens.f (k : Nat) (l0 : List (S68)) (l1 : List (S68)) : Option (Bool) := if (l0.length : Int) = (l1.length : Int) then (monikerplain_SameTokens.l0 k l0 l1 (l0.length : Int) 0) else (some false)
set_option maxHeartbeats 8000000 in
set_option maxRecDepth 100000 in
theorem monikerplain_SameTokens.calls (k : Nat) (A0 : Option Addr) (c0 : Nat) (l0 : List (S68)) (A1 : Option Addr) (c1 : Nat) (l1 : List (S68)) (r : Bool) (w : World) (hr0 : Kd.C k68 w A0 l0.length l0) (hc0 : l0.length ≤ c0) (hr1 : Kd.C k68 w A1 l1.length l1) (hc1 : l1.length ≤ c1) (h : monikerplain_SameTokens.f k l0 l1 = some r) :
    Calls Tryd.prog 43 #[.slice A0 l0.length c0, .slice A1 l1.length c1] w fun e w' => e = .returned (.bool r) ∧ Drawn0 w w' := by
  have hu68 := Tryd.underlying68
  have HR0 := Aside0.mk hr0
  have HC0 := Aside0.mk hc0
  clear hr0 hc0
  have HR1 := Aside0.mk hr1
  have HC1 := Aside0.mk hc1
  clear hr1 hc1
  have H : (if (l0.length : Int) = (l1.length : Int) then (monikerplain_SameTokens.l0 k l0 l1 (l0.length : Int) 0) else (some false)) = some r := h
  clear h
  by_cases c3 : (l0.length : Int) = (l1.length : Int)
  · rw [if_pos c3] at H
    have c3b0 : ((l0.length : Int) == (l1.length : Int)) = true := beq_iff_eq.mpr c3
    have c3b1 : ((l0.length : Int) != (l1.length : Int)) = false := bne_eq_false_iff_eq.mpr c3
    have c3b2 : (l0.length == l1.length) = true := by first | simpa using c3 | (simp at c3 ⊢; omega)
    clear c3
    have H' := Aside0.mk H
    clear H
    go_enter Tryd.func43, Tryd.ntmps43
    go_wp2
    repeat (go_quiet (fail); try go_wp2)
    go_loopg [13] k (fun kq v13 w' => ∃ (x13_1 : Int), v13 = .int .i64 x13_1 ∧ Aside0 (monikerplain_SameTokens.l0 kq l0 l1 (l0.length : Int) x13_1 = some r) ∧ Aside0 (kq ≤ k) ∧ Drawn0 w w')
    case atStart => exact ⟨(0), (by first | rfl | (simp; done) | (simp [*]; done)), H', ⟨Nat.le_refl _⟩, by repeat (first | exact Drawn0.refl _ | apply Drawn0.step)⟩
    case round =>
      clear H'
      try clear c1
      try clear p2
      try clear c3
      try clear c3b0
      try clear c3b1
      try clear c3b2
      obtain ⟨x13_1, rfl, HA, HK1, ⟨m1, rfl⟩⟩ := hrel
      cases gk with
      | zero => exact absurd HA.out (by simp [monikerplain_SameTokens.l0])
      | succ k1 =>
        have H := HA.out
        clear HA
        simp only [monikerplain_SameTokens.l0] at H
        by_cases c4 : x13_1 < (l0.length : Int)
        · rw [if_pos c4] at H
          have c4b0 : decide (x13_1 < (l0.length : Int)) = true := decide_eq_true c4
          clear c4
          by_cases c5 : 0 ≤ x13_1
          · rw [if_pos c5] at H
            have c5b0 : decide (0 ≤ x13_1) = true := decide_eq_true c5
            clear c5
            by_cases c6 : x13_1 < (l0.length : Int)
            · rw [if_pos c6] at H
              have c6b0 : decide (x13_1 < (l0.length : Int)) = true := decide_eq_true c6
              clear c6
              by_cases c7 : x13_1 < (l1.length : Int)
              · rw [if_pos c7] at H
                have c7b0 : decide (x13_1 < (l1.length : Int)) = true := decide_eq_true c7
                clear c7
                by_cases c8 : (!(((rd_T68 l0 x13_1).f0) == ((rd_T68 l1 x13_1).f0)) || (!(((rd_T68 l0 x13_1).f1) == ((rd_T68 l1 x13_1).f1)) || (!(((rd_T68 l0 x13_1).f2) == ((rd_T68 l1 x13_1).f2))))) = true
                · rw [if_pos c8] at H
                  have c8b0 : (!(((rd_T68 l0 x13_1).f0) == ((rd_T68 l1 x13_1).f0)) || (!(((rd_T68 l0 x13_1).f1) == ((rd_T68 l1 x13_1).f1)) || (!(((rd_T68 l0 x13_1).f2) == ((rd_T68 l1 x13_1).f2))))) = true := c8
                  clear c8
                  obtain rfl := Option.some.inj H
                  have p225 : 0 ≤ (x13_1 : Int) := of_decide_eq_true (by first | (with_reducible assumption) | assumption)
                  have q225 : x13_1 < (l0.length : Int) := of_decide_eq_true (by first | (with_reducible assumption) | assumption)
                  obtain ⟨ad225, e225, hx225_0, hx225_1, hx225_2⟩ := at_T68 HR0.out x13_1 p225 q225
                  cases e225
                  replace p225 := eq_true p225
                  replace q225 := eq_true q225
                  have p226 : 0 ≤ (x13_1 : Int) := of_decide_eq_true (by first | (with_reducible assumption) | assumption)
                  have q226 : x13_1 < (l1.length : Int) := of_decide_eq_true (by first | (with_reducible assumption) | assumption)
                  obtain ⟨ad226, e226, hx226_0, hx226_1, hx226_2⟩ := at_T68 HR1.out x13_1 p226 q226
                  cases e226
                  replace p226 := eq_true p226
                  replace q226 := eq_true q226
                  go_wp2
                  repeat (go_quiet (fail); try go_wp2)
                  go_ret
                  exact ⟨by first | rfl | (simp; done) | (simp [*]; done), by repeat (first | exact Drawn0.refl _ | apply Drawn0.step)⟩
                · rw [if_neg c8] at H
                  have c8b0 : (!(((rd_T68 l0 x13_1).f0) == ((rd_T68 l1 x13_1).f0)) || (!(((rd_T68 l0 x13_1).f1) == ((rd_T68 l1 x13_1).f1)) || (!(((rd_T68 l0 x13_1).f2) == ((rd_T68 l1 x13_1).f2))))) = false := by simpa using c8
                  clear c8
                  have H' := Aside0.mk H
                  clear H
                  have p225 : 0 ≤ (x13_1 : Int) := of_decide_eq_true (by first | (with_reducible assumption) | assumption)
                  have q225 : x13_1 < (l0.length : Int) := of_decide_eq_true (by first | (with_reducible assumption) | assumption)
                  obtain ⟨ad225, e225, hx225_0, hx225_1, hx225_2⟩ := at_T68 HR0.out x13_1 p225 q225
                  cases e225
                  replace p225 := eq_true p225
                  replace q225 := eq_true q225
                  have p226 : 0 ≤ (x13_1 : Int) := of_decide_eq_true (by first | (with_reducible assumption) | assumption)
                  have q226 : x13_1 < (l1.length : Int) := of_decide_eq_true (by first | (with_reducible assumption) | assumption)
                  obtain ⟨ad226, e226, hx226_0, hx226_1, hx226_2⟩ := at_T68 HR1.out x13_1 p226 q226
                  cases e226
                  replace p226 := eq_true p226
                  replace q226 := eq_true q226
                  go_wp2
                  repeat (go_quiet (fail); try go_wp2)
                  go_roundg k1
                  case measure => have := HK1.out; omega
                  case rel => exact ⟨(wrap64 (x13_1 + 1)), (by first | rfl | (simp; done) | (simp [*]; done)), H', ⟨by have := HK1.out; omega⟩, by repeat (first | exact Drawn0.refl _ | apply Drawn0.step)⟩
              · rw [if_neg c7] at H
                exact absurd H (by simp)
            · rw [if_neg c6] at H
              exact absurd H (by simp)
          · rw [if_neg c5] at H
            exact absurd H (by simp)
        · rw [if_neg c4] at H
          have c4b0 : decide (x13_1 < (l0.length : Int)) = false := decide_eq_false c4
          clear c4
          obtain rfl := Option.some.inj H
          go_wp2
          repeat (go_quiet (fail); try go_wp2)
          go_ret
          exact ⟨by first | rfl | (simp; done) | (simp [*]; done), by repeat (first | exact Drawn0.refl _ | apply Drawn0.step)⟩
  · rw [if_neg c3] at H
    have c3b0 : ((l0.length : Int) == (l1.length : Int)) = false := beq_eq_false_iff_ne.mpr c3
    have c3b1 : ((l0.length : Int) != (l1.length : Int)) = true := bne_iff_ne.mpr c3
    have c3b2 : (l0.length == l1.length) = false := by first | simpa using c3 | (simp at c3 ⊢; omega)
    obtain rfl := Option.some.inj H
    go_enter Tryd.func43, Tryd.ntmps43
    go_wp2
    repeat (go_quiet (fail); try go_wp2)
    go_ret
    exact ⟨by first | rfl | (simp; done) | (simp [*]; done), by repeat (first | exact Drawn0.refl _ | apply Drawn0.step)⟩

end Go.Proofs.YtodldpdnhcafpaaDoor.F

-- A text of this session's own program (wip/myprint.sh over a changed print tool): functions and their walks
namespace Go.Proofs.YtodldpdnhcafpaaDoor.F
open Go.RowKit Go.Proofs.YtodldpdnhcafpaaDoorW.PrintWords Go.Proofs.YtodldpdnhcafpaaDoorW.PrintLast Go.Proofs.YtodldpdnhcafpaaDoorW.PrintMore
attribute [local go_sem] max2_int min2_int max_two min_two max_three min_three max_four min_four   -- for this text's walks alone
set_option linter.unusedVariables false
set_option linter.unusedSimpArgs false

theorem eqA43 (d : Nat) (w : World) (x0 y0 : Int) (x1 y1 : Int) (x2 y2 : Int) (x3 y3 : Int) :
    (Op.equalIn (d + 2) 43 (.agg #[.int .u8 x0, .int .i64 x1, .int .i64 x2, .int .i64 x3]) (.agg #[.int .u8 y0, .int .i64 y1, .int .i64 y2, .int .i64 y3])).run Tryd.prog w = .ok (x0 == y0 && (x1 == y1 && (x2 == y2 && (x3 == y3)))) w := by
  refine eqA_of Tryd.underlying43 (by kernel_rfl) ?_
  refine eqf_cons (by rfl) (by go_simp; rfl) (by go_simp; rfl) (by go_simp) ?_
  refine eqf_cons (by rfl) (by go_simp; rfl) (by go_simp; rfl) (by go_simp) ?_
  refine eqf_cons (by rfl) (by go_simp; rfl) (by go_simp; rfl) (by go_simp) ?_
  exact eqf_last (by rfl) (by go_simp; rfl) (by go_simp; rfl) (by go_simp)
end Go.Proofs.YtodldpdnhcafpaaDoor.F

-- A text of this session's own program (wip/myprint.sh over a changed print tool): functions and their walks
namespace Go.Proofs.YtodldpdnhcafpaaDoor.F
open Go.RowKit Go.Proofs.YtodldpdnhcafpaaDoorW.PrintWords Go.Proofs.YtodldpdnhcafpaaDoorW.PrintLast Go.Proofs.YtodldpdnhcafpaaDoorW.PrintMore
attribute [local go_sem] max2_int min2_int max_two min_two max_three min_three max_four min_four   -- for this text's walks alone
set_option linter.unusedVariables false
set_option linter.unusedSimpArgs false

attribute [local go_sem high] eqA43
/-! ### monikerplain_SameTree: function 9 -/
def monikerplain_SameTree.l0 : Nat → Int → Int → List (S43) → List (S43) → Option (Bool)
  | 0, _, _, _, _ => none
  | k + 1, x15, x16, x131000, x132000 => if x16 < x15 then (if 0 ≤ x16 then (if x16 < (x131000.length : Int) then (if x16 < (x132000.length : Int) then (if (!(((rd_T43 x131000 x16).f0) == ((rd_T43 x132000 x16).f0)) || (!(((rd_T43 x131000 x16).f1) == ((rd_T43 x132000 x16).f1)) || (!(((rd_T43 x131000 x16).f2) == ((rd_T43 x132000 x16).f2)) || (!(((rd_T43 x131000 x16).f3) == ((rd_T43 x132000 x16).f3)))))) = true then (some false) else (monikerplain_SameTree.l0 k x15 (wrap64 (x16 + 1)) x131000 x132000)) else (none)) else (none)) else (none)) else (some true)
def monikerplain_SameTree.f (k : Nat) (l0_0 : List (S43)) (l1_0 : List (S43)) : Option (Bool) := if (l0_0.length : Int) = (l1_0.length : Int) then (monikerplain_SameTree.l0 k (l0_0.length : Int) 0 l0_0 l1_0) else (some false)
set_option maxHeartbeats 8000000 in
set_option maxRecDepth 100000 in
theorem monikerplain_SameTree.calls (k : Nat) (A0_0 : Option Addr) (c0_0 : Nat) (l0_0 : List (S43)) (A1_0 : Option Addr) (c1_0 : Nat) (l1_0 : List (S43)) (r : Bool) (w : World) (hr0_0 : Kd.C k43 w A0_0 l0_0.length l0_0) (hc0_0 : l0_0.length ≤ c0_0) (hr1_0 : Kd.C k43 w A1_0 l1_0.length l1_0) (hc1_0 : l1_0.length ≤ c1_0) (h : monikerplain_SameTree.f k l0_0 l1_0 = some r) :
    Calls Tryd.prog 9 #[.agg #[.slice A0_0 l0_0.length c0_0], .agg #[.slice A1_0 l1_0.length c1_0]] w fun e w' => e = .returned (.bool r) ∧ Below w.heap.size w w' := by
  have hu24 := Tryd.underlying24
  have hu43 := Tryd.underlying43
  have HR0_0 := Aside0.mk hr0_0
  have HC0_0 := Aside0.mk hc0_0
  clear hr0_0 hc0_0
  have HR1_0 := Aside0.mk hr1_0
  have HC1_0 := Aside0.mk hc1_0
  clear hr1_0 hc1_0
  have HB := Aside0.mk (Below.refl w.heap.size w)
  have H : (if (l0_0.length : Int) = (l1_0.length : Int) then (monikerplain_SameTree.l0 k (l0_0.length : Int) 0 l0_0 l1_0) else (some false)) = some r := h
  clear h
  by_cases c3 : (l0_0.length : Int) = (l1_0.length : Int)
  · rw [if_pos c3] at H
    have c3b0 : ((l0_0.length : Int) == (l1_0.length : Int)) = true := beq_iff_eq.mpr c3
    have c3b1 : ((l0_0.length : Int) != (l1_0.length : Int)) = false := bne_eq_false_iff_eq.mpr c3
    have c3b2 : (l0_0.length == l1_0.length) = true := by first | simpa using c3 | (simp at c3 ⊢; omega)
    clear c3
    have H' := Aside0.mk H
    clear H
    go_enter Tryd.func9, Tryd.ntmps9
    go_wp2_with (first | ((with_reducible refine gate_dst (N := 2) rfl ?_); refine box_event ?hg (N := 2) ?hd (cs := #[.slice A0_0 l0_0.length c0_0]) (t := 24) ?hr ?_; (case hd => rfl); (case hg => rfl); (case hr => first | (go_simp; done) | (go_simp; rfl)); intro gb130 hg w4 hbox hb; have n0_ := Aside0.mk (below_step (by repeat (first | (with_reducible first | exact HB.out | apply below_alloc | apply pw_below_drewN | apply below_drew1) | exact HB.out)) hb); have n1_ := Aside0.mk (hbox); have n2_ := Aside0.mk ((by rw [hg]; exact (below_size (by repeat (first | (with_reducible first | exact HB.out | apply below_alloc | apply pw_below_drewN | apply below_drew1) | exact HB.out))) : w.heap.size ≤ gb130)); have n3_ := Aside0.mk ((by rw [hg]; exact (below_size (by repeat (first | (with_reducible first | exact HB.out | apply below_alloc | apply pw_below_drewN | apply below_drew1) | exact HB.out))) : w.heap.size ≤ gb130)); clear HB; have HB := n0_; have BK130 := n1_; have GW130 := n2_; have GE130 := n3_; clear n0_ n1_ n2_ n3_; clear hb hbox hg) | ((with_reducible refine gate_dst (N := 3) rfl ?_); refine box_event ?hg (N := 3) ?hd (cs := #[.slice A1_0 l1_0.length c1_0]) (t := 24) ?hr ?_; (case hd => rfl); (case hg => rfl); (case hr => first | (go_simp; done) | (go_simp; rfl)); intro gb131 hg w5 hbox hb; have n0_ := Aside0.mk (blk_below (g := gb130) (o := .cells #[.slice A0_0 l0_0.length c0_0] 24 (0, 0)) (by (with_reducible repeat (first | refine blk_drewN ?_ _ | refine blk_drew ?_ | refine blk_alloc ?_ _)); exact BK130.out) hb); have n1_ := Aside0.mk (below_step (by repeat (first | (with_reducible first | exact HB.out | apply below_alloc | apply pw_below_drewN | apply below_drew1 | refine below_set ?_ GE130.out) | exact HB.out)) hb); have n2_ := Aside0.mk (hbox); have n3_ := Aside0.mk ((by rw [hg]; exact (below_size (by repeat (first | (with_reducible first | exact HB.out | apply below_alloc | apply pw_below_drewN | apply below_drew1 | refine below_set ?_ GE130.out) | exact HB.out))) : w.heap.size ≤ gb131)); have n4_ := Aside0.mk ((by rw [hg]; exact (below_size (by repeat (first | (with_reducible first | exact HB.out | apply below_alloc | apply pw_below_drewN | apply below_drew1 | refine below_set ?_ GE130.out) | exact HB.out))) : w.heap.size ≤ gb131)); have n5_ := Aside0.mk ((by rw [hg]; exact Nat.ne_of_lt (blk_lt (g := gb130) (o := .cells #[.slice A0_0 l0_0.length c0_0] 24 (0, 0)) (by (with_reducible repeat (first | refine blk_drewN ?_ _ | refine blk_drew ?_ | refine blk_alloc ?_ _)); exact BK130.out)) : gb130 ≠ gb131)); have n6_ := Aside0.mk ((by rw [hg]; exact Nat.ne_of_gt (blk_lt (g := gb130) (o := .cells #[.slice A0_0 l0_0.length c0_0] 24 (0, 0)) (by (with_reducible repeat (first | refine blk_drewN ?_ _ | refine blk_drew ?_ | refine blk_alloc ?_ _)); exact BK130.out)) : gb131 ≠ gb130)); clear BK130; clear HB; have BK130 := n0_; have HB := n1_; have BK131 := n2_; have GW131 := n3_; have GE131 := n4_; have NB130_131 := n5_; have NB131_130 := n6_; clear n0_ n1_ n2_ n3_ n4_ n5_ n6_; clear hb hbox hg; have hnb6 := NB130_131.out; have hnc6 := NB131_130.out; have hcz7_0 : w5.cell? ⟨gb130, 0, none⟩ = some (.slice A0_0 l0_0.length c0_0) := (blk_cell BK130.out 0).trans rfl; have hfz7_0 := blk_frozen BK130.out 0; have hcz8_0 : w5.cell? ⟨gb131, 0, none⟩ = some (.slice A1_0 l1_0.length c1_0) := (blk_cell BK131.out 0).trans rfl; have hfz8_0 := blk_frozen BK131.out 0))
    repeat (go_quiet (first | ((with_reducible refine gate_dst (N := 2) rfl ?_); refine box_event ?hg (N := 2) ?hd (cs := #[.slice A0_0 l0_0.length c0_0]) (t := 24) ?hr ?_; (case hd => rfl); (case hg => rfl); (case hr => first | (go_simp; done) | (go_simp; rfl)); intro gb130 hg w4 hbox hb; have n0_ := Aside0.mk (below_step (by repeat (first | (with_reducible first | exact HB.out | apply below_alloc | apply pw_below_drewN | apply below_drew1) | exact HB.out)) hb); have n1_ := Aside0.mk (hbox); have n2_ := Aside0.mk ((by rw [hg]; exact (below_size (by repeat (first | (with_reducible first | exact HB.out | apply below_alloc | apply pw_below_drewN | apply below_drew1) | exact HB.out))) : w.heap.size ≤ gb130)); have n3_ := Aside0.mk ((by rw [hg]; exact (below_size (by repeat (first | (with_reducible first | exact HB.out | apply below_alloc | apply pw_below_drewN | apply below_drew1) | exact HB.out))) : w.heap.size ≤ gb130)); clear HB; have HB := n0_; have BK130 := n1_; have GW130 := n2_; have GE130 := n3_; clear n0_ n1_ n2_ n3_; clear hb hbox hg) | ((with_reducible refine gate_dst (N := 3) rfl ?_); refine box_event ?hg (N := 3) ?hd (cs := #[.slice A1_0 l1_0.length c1_0]) (t := 24) ?hr ?_; (case hd => rfl); (case hg => rfl); (case hr => first | (go_simp; done) | (go_simp; rfl)); intro gb131 hg w5 hbox hb; have n0_ := Aside0.mk (blk_below (g := gb130) (o := .cells #[.slice A0_0 l0_0.length c0_0] 24 (0, 0)) (by (with_reducible repeat (first | refine blk_drewN ?_ _ | refine blk_drew ?_ | refine blk_alloc ?_ _)); exact BK130.out) hb); have n1_ := Aside0.mk (below_step (by repeat (first | (with_reducible first | exact HB.out | apply below_alloc | apply pw_below_drewN | apply below_drew1 | refine below_set ?_ GE130.out) | exact HB.out)) hb); have n2_ := Aside0.mk (hbox); have n3_ := Aside0.mk ((by rw [hg]; exact (below_size (by repeat (first | (with_reducible first | exact HB.out | apply below_alloc | apply pw_below_drewN | apply below_drew1 | refine below_set ?_ GE130.out) | exact HB.out))) : w.heap.size ≤ gb131)); have n4_ := Aside0.mk ((by rw [hg]; exact (below_size (by repeat (first | (with_reducible first | exact HB.out | apply below_alloc | apply pw_below_drewN | apply below_drew1 | refine below_set ?_ GE130.out) | exact HB.out))) : w.heap.size ≤ gb131)); have n5_ := Aside0.mk ((by rw [hg]; exact Nat.ne_of_lt (blk_lt (g := gb130) (o := .cells #[.slice A0_0 l0_0.length c0_0] 24 (0, 0)) (by (with_reducible repeat (first | refine blk_drewN ?_ _ | refine blk_drew ?_ | refine blk_alloc ?_ _)); exact BK130.out)) : gb130 ≠ gb131)); have n6_ := Aside0.mk ((by rw [hg]; exact Nat.ne_of_gt (blk_lt (g := gb130) (o := .cells #[.slice A0_0 l0_0.length c0_0] 24 (0, 0)) (by (with_reducible repeat (first | refine blk_drewN ?_ _ | refine blk_drew ?_ | refine blk_alloc ?_ _)); exact BK130.out)) : gb131 ≠ gb130)); clear BK130; clear HB; have BK130 := n0_; have HB := n1_; have BK131 := n2_; have GW131 := n3_; have GE131 := n4_; have NB130_131 := n5_; have NB131_130 := n6_; clear n0_ n1_ n2_ n3_ n4_ n5_ n6_; clear hb hbox hg; have hnb6 := NB130_131.out; have hnc6 := NB131_130.out; have hcz7_0 : w5.cell? ⟨gb130, 0, none⟩ = some (.slice A0_0 l0_0.length c0_0) := (blk_cell BK130.out 0).trans rfl; have hfz7_0 := blk_frozen BK130.out 0; have hcz8_0 : w5.cell? ⟨gb131, 0, none⟩ = some (.slice A1_0 l1_0.length c1_0) := (blk_cell BK131.out 0).trans rfl; have hfz8_0 := blk_frozen BK131.out 0)); try go_wp2_with (first | ((with_reducible refine gate_dst (N := 2) rfl ?_); refine box_event ?hg (N := 2) ?hd (cs := #[.slice A0_0 l0_0.length c0_0]) (t := 24) ?hr ?_; (case hd => rfl); (case hg => rfl); (case hr => first | (go_simp; done) | (go_simp; rfl)); intro gb130 hg w4 hbox hb; have n0_ := Aside0.mk (below_step (by repeat (first | (with_reducible first | exact HB.out | apply below_alloc | apply pw_below_drewN | apply below_drew1) | exact HB.out)) hb); have n1_ := Aside0.mk (hbox); have n2_ := Aside0.mk ((by rw [hg]; exact (below_size (by repeat (first | (with_reducible first | exact HB.out | apply below_alloc | apply pw_below_drewN | apply below_drew1) | exact HB.out))) : w.heap.size ≤ gb130)); have n3_ := Aside0.mk ((by rw [hg]; exact (below_size (by repeat (first | (with_reducible first | exact HB.out | apply below_alloc | apply pw_below_drewN | apply below_drew1) | exact HB.out))) : w.heap.size ≤ gb130)); clear HB; have HB := n0_; have BK130 := n1_; have GW130 := n2_; have GE130 := n3_; clear n0_ n1_ n2_ n3_; clear hb hbox hg) | ((with_reducible refine gate_dst (N := 3) rfl ?_); refine box_event ?hg (N := 3) ?hd (cs := #[.slice A1_0 l1_0.length c1_0]) (t := 24) ?hr ?_; (case hd => rfl); (case hg => rfl); (case hr => first | (go_simp; done) | (go_simp; rfl)); intro gb131 hg w5 hbox hb; have n0_ := Aside0.mk (blk_below (g := gb130) (o := .cells #[.slice A0_0 l0_0.length c0_0] 24 (0, 0)) (by (with_reducible repeat (first | refine blk_drewN ?_ _ | refine blk_drew ?_ | refine blk_alloc ?_ _)); exact BK130.out) hb); have n1_ := Aside0.mk (below_step (by repeat (first | (with_reducible first | exact HB.out | apply below_alloc | apply pw_below_drewN | apply below_drew1 | refine below_set ?_ GE130.out) | exact HB.out)) hb); have n2_ := Aside0.mk (hbox); have n3_ := Aside0.mk ((by rw [hg]; exact (below_size (by repeat (first | (with_reducible first | exact HB.out | apply below_alloc | apply pw_below_drewN | apply below_drew1 | refine below_set ?_ GE130.out) | exact HB.out))) : w.heap.size ≤ gb131)); have n4_ := Aside0.mk ((by rw [hg]; exact (below_size (by repeat (first | (with_reducible first | exact HB.out | apply below_alloc | apply pw_below_drewN | apply below_drew1 | refine below_set ?_ GE130.out) | exact HB.out))) : w.heap.size ≤ gb131)); have n5_ := Aside0.mk ((by rw [hg]; exact Nat.ne_of_lt (blk_lt (g := gb130) (o := .cells #[.slice A0_0 l0_0.length c0_0] 24 (0, 0)) (by (with_reducible repeat (first | refine blk_drewN ?_ _ | refine blk_drew ?_ | refine blk_alloc ?_ _)); exact BK130.out)) : gb130 ≠ gb131)); have n6_ := Aside0.mk ((by rw [hg]; exact Nat.ne_of_gt (blk_lt (g := gb130) (o := .cells #[.slice A0_0 l0_0.length c0_0] 24 (0, 0)) (by (with_reducible repeat (first | refine blk_drewN ?_ _ | refine blk_drew ?_ | refine blk_alloc ?_ _)); exact BK130.out)) : gb131 ≠ gb130)); clear BK130; clear HB; have BK130 := n0_; have HB := n1_; have BK131 := n2_; have GW131 := n3_; have GE131 := n4_; have NB130_131 := n5_; have NB131_130 := n6_; clear n0_ n1_ n2_ n3_ n4_ n5_ n6_; clear hb hbox hg; have hnb6 := NB130_131.out; have hnc6 := NB131_130.out; have hcz7_0 : w5.cell? ⟨gb130, 0, none⟩ = some (.slice A0_0 l0_0.length c0_0) := (blk_cell BK130.out 0).trans rfl; have hfz7_0 := blk_frozen BK130.out 0; have hcz8_0 : w5.cell? ⟨gb131, 0, none⟩ = some (.slice A1_0 l1_0.length c1_0) := (blk_cell BK131.out 0).trans rfl; have hfz8_0 := blk_frozen BK131.out 0)))
    go_loopg [16] k (fun kq v16 w' => ∃ (x16_1 : Int), v16 = .int .i64 x16_1 ∧ Aside0 (monikerplain_SameTree.l0 kq (l0_0.length : Int) x16_1 l0_0 l1_0 = some r) ∧ Aside0 (kq ≤ k) ∧ Aside0 (w'.heap[gb130]? = some (.cells #[(.slice A0_0 l0_0.length c0_0)] 24 (0, 0))) ∧ Aside0 (w'.heap[gb131]? = some (.cells #[(.slice A1_0 l1_0.length c1_0)] 24 (0, 0))) ∧ Aside0 (Below w.heap.size w w'))
    case atStart => exact ⟨(0), (by first | rfl | (simp; done) | (simp [*]; done)), H', ⟨Nat.le_refl _⟩, ⟨by (with_reducible repeat (first | refine blk_drewN ?_ _ | refine blk_drew ?_ | refine blk_alloc ?_ _)); exact BK130.out⟩, ⟨by (with_reducible repeat (first | refine blk_drewN ?_ _ | refine blk_drew ?_ | refine blk_alloc ?_ _)); exact BK131.out⟩, ⟨by repeat (first | (with_reducible first | exact HB.out | apply below_alloc | apply pw_below_drewN | apply below_drew1 | refine below_set ?_ GE130.out | refine below_set ?_ GE131.out) | exact HB.out)⟩⟩
    case round =>
      clear H'
      try clear c1
      try clear p2
      try clear c3
      try clear c3b0
      try clear c3b1
      try clear c3b2
      try clear c6
      try clear hcz7_0
      try clear hcz8_0
      try clear hfz7_0
      try clear hfz8_0
      obtain ⟨x16_1, rfl, HA, HK1, BK130, BK131, HB⟩ := hrel
      cases gk with
      | zero => exact absurd HA.out (by simp [monikerplain_SameTree.l0])
      | succ k1 =>
        have H := HA.out
        clear HA
        simp only [monikerplain_SameTree.l0] at H
        by_cases c9 : x16_1 < (l0_0.length : Int)
        · rw [if_pos c9] at H
          have c9b0 : decide (x16_1 < (l0_0.length : Int)) = true := decide_eq_true c9
          clear c9
          by_cases c10 : 0 ≤ x16_1
          · rw [if_pos c10] at H
            have c10b0 : decide (0 ≤ x16_1) = true := decide_eq_true c10
            clear c10
            by_cases c11 : x16_1 < (l0_0.length : Int)
            · rw [if_pos c11] at H
              have c11b0 : decide (x16_1 < (l0_0.length : Int)) = true := decide_eq_true c11
              clear c11
              by_cases c12 : x16_1 < (l1_0.length : Int)
              · rw [if_pos c12] at H
                have c12b0 : decide (x16_1 < (l1_0.length : Int)) = true := decide_eq_true c12
                clear c12
                by_cases c13 : (!(((rd_T43 l0_0 x16_1).f0) == ((rd_T43 l1_0 x16_1).f0)) || (!(((rd_T43 l0_0 x16_1).f1) == ((rd_T43 l1_0 x16_1).f1)) || (!(((rd_T43 l0_0 x16_1).f2) == ((rd_T43 l1_0 x16_1).f2)) || (!(((rd_T43 l0_0 x16_1).f3) == ((rd_T43 l1_0 x16_1).f3)))))) = true
                · rw [if_pos c13] at H
                  have c13b0 : (!(((rd_T43 l0_0 x16_1).f0) == ((rd_T43 l1_0 x16_1).f0)) || (!(((rd_T43 l0_0 x16_1).f1) == ((rd_T43 l1_0 x16_1).f1)) || (!(((rd_T43 l0_0 x16_1).f2) == ((rd_T43 l1_0 x16_1).f2)) || (!(((rd_T43 l0_0 x16_1).f3) == ((rd_T43 l1_0 x16_1).f3)))))) = true := c13
                  clear c13
                  obtain rfl := Option.some.inj H
                  have hnb14 := NB130_131.out
                  have hnc14 := NB131_130.out
                  have hcz15_0 : wr.cell? ⟨gb130, 0, none⟩ = some (.slice A0_0 l0_0.length c0_0) := (blk_cell BK130.out 0).trans rfl
                  have hfz15_0 := blk_frozen BK130.out 0
                  have p132 : 0 ≤ (x16_1 : Int) := of_decide_eq_true (by first | (with_reducible assumption) | assumption)
                  have q132 : x16_1 < (l0_0.length : Int) := of_decide_eq_true (by first | (with_reducible assumption) | assumption)
                  obtain ⟨ad132, e132, hx132_0, hx132_1, hx132_2, hx132_3⟩ := at_T43 HR0_0.out x16_1 p132 q132
                  cases e132
                  replace hx132_0 := (HB.out.cell (World.block_lt_of_cell? w _ hx132_0)).trans hx132_0
                  replace hx132_1 := (HB.out.cell (World.block_lt_of_cell? w _ hx132_1)).trans hx132_1
                  replace hx132_2 := (HB.out.cell (World.block_lt_of_cell? w _ hx132_2)).trans hx132_2
                  replace hx132_3 := (HB.out.cell (World.block_lt_of_cell? w _ hx132_3)).trans hx132_3
                  replace p132 := eq_true p132
                  replace q132 := eq_true q132
                  have hcz16_0 : wr.cell? ⟨gb131, 0, none⟩ = some (.slice A1_0 l1_0.length c1_0) := (blk_cell BK131.out 0).trans rfl
                  have hfz16_0 := blk_frozen BK131.out 0
                  have p133 : 0 ≤ (x16_1 : Int) := of_decide_eq_true (by first | (with_reducible assumption) | assumption)
                  have q133 : x16_1 < (l1_0.length : Int) := of_decide_eq_true (by first | (with_reducible assumption) | assumption)
                  obtain ⟨ad133, e133, hx133_0, hx133_1, hx133_2, hx133_3⟩ := at_T43 HR1_0.out x16_1 p133 q133
                  cases e133
                  replace hx133_0 := (HB.out.cell (World.block_lt_of_cell? w _ hx133_0)).trans hx133_0
                  replace hx133_1 := (HB.out.cell (World.block_lt_of_cell? w _ hx133_1)).trans hx133_1
                  replace hx133_2 := (HB.out.cell (World.block_lt_of_cell? w _ hx133_2)).trans hx133_2
                  replace hx133_3 := (HB.out.cell (World.block_lt_of_cell? w _ hx133_3)).trans hx133_3
                  replace p133 := eq_true p133
                  replace q133 := eq_true q133
                  go_wp2
                  repeat (go_quiet (fail); try go_wp2)
                  go_ret
                  exact ⟨by first | rfl | (simp [errW_none, errW_some] <;> rfl) | (simp [*, errW_none, errW_some] <;> rfl), by repeat (first | (with_reducible first | exact HB.out | apply below_alloc | apply pw_below_drewN | apply below_drew1 | refine below_set ?_ GE130.out | refine below_set ?_ GE131.out) | exact HB.out)⟩
                · rw [if_neg c13] at H
                  have c13b0 : (!(((rd_T43 l0_0 x16_1).f0) == ((rd_T43 l1_0 x16_1).f0)) || (!(((rd_T43 l0_0 x16_1).f1) == ((rd_T43 l1_0 x16_1).f1)) || (!(((rd_T43 l0_0 x16_1).f2) == ((rd_T43 l1_0 x16_1).f2)) || (!(((rd_T43 l0_0 x16_1).f3) == ((rd_T43 l1_0 x16_1).f3)))))) = false := by simpa using c13
                  clear c13
                  have H' := Aside0.mk H
                  clear H
                  have hnb17 := NB130_131.out
                  have hnc17 := NB131_130.out
                  have hcz18_0 : wr.cell? ⟨gb130, 0, none⟩ = some (.slice A0_0 l0_0.length c0_0) := (blk_cell BK130.out 0).trans rfl
                  have hfz18_0 := blk_frozen BK130.out 0
                  have p132 : 0 ≤ (x16_1 : Int) := of_decide_eq_true (by first | (with_reducible assumption) | assumption)
                  have q132 : x16_1 < (l0_0.length : Int) := of_decide_eq_true (by first | (with_reducible assumption) | assumption)
                  obtain ⟨ad132, e132, hx132_0, hx132_1, hx132_2, hx132_3⟩ := at_T43 HR0_0.out x16_1 p132 q132
                  cases e132
                  replace hx132_0 := (HB.out.cell (World.block_lt_of_cell? w _ hx132_0)).trans hx132_0
                  replace hx132_1 := (HB.out.cell (World.block_lt_of_cell? w _ hx132_1)).trans hx132_1
                  replace hx132_2 := (HB.out.cell (World.block_lt_of_cell? w _ hx132_2)).trans hx132_2
                  replace hx132_3 := (HB.out.cell (World.block_lt_of_cell? w _ hx132_3)).trans hx132_3
                  replace p132 := eq_true p132
                  replace q132 := eq_true q132
                  have hcz19_0 : wr.cell? ⟨gb131, 0, none⟩ = some (.slice A1_0 l1_0.length c1_0) := (blk_cell BK131.out 0).trans rfl
                  have hfz19_0 := blk_frozen BK131.out 0
                  have p133 : 0 ≤ (x16_1 : Int) := of_decide_eq_true (by first | (with_reducible assumption) | assumption)
                  have q133 : x16_1 < (l1_0.length : Int) := of_decide_eq_true (by first | (with_reducible assumption) | assumption)
                  obtain ⟨ad133, e133, hx133_0, hx133_1, hx133_2, hx133_3⟩ := at_T43 HR1_0.out x16_1 p133 q133
                  cases e133
                  replace hx133_0 := (HB.out.cell (World.block_lt_of_cell? w _ hx133_0)).trans hx133_0
                  replace hx133_1 := (HB.out.cell (World.block_lt_of_cell? w _ hx133_1)).trans hx133_1
                  replace hx133_2 := (HB.out.cell (World.block_lt_of_cell? w _ hx133_2)).trans hx133_2
                  replace hx133_3 := (HB.out.cell (World.block_lt_of_cell? w _ hx133_3)).trans hx133_3
                  replace p133 := eq_true p133
                  replace q133 := eq_true q133
                  go_wp2
                  repeat (go_quiet (fail); try go_wp2)
                  go_roundg k1
                  case measure => have := HK1.out; omega
                  case rel => exact ⟨(wrap64 (x16_1 + 1)), (by first | rfl | (simp; done) | (simp [*]; done)), H', ⟨by have := HK1.out; omega⟩, ⟨by (with_reducible repeat (first | refine blk_drewN ?_ _ | refine blk_drew ?_ | refine blk_alloc ?_ _)); exact BK130.out⟩, ⟨by (with_reducible repeat (first | refine blk_drewN ?_ _ | refine blk_drew ?_ | refine blk_alloc ?_ _)); exact BK131.out⟩, ⟨by repeat (first | (with_reducible first | exact HB.out | apply below_alloc | apply pw_below_drewN | apply below_drew1 | refine below_set ?_ GE130.out | refine below_set ?_ GE131.out) | exact HB.out)⟩⟩
              · rw [if_neg c12] at H
                exact absurd H (by simp)
            · rw [if_neg c11] at H
              exact absurd H (by simp)
          · rw [if_neg c10] at H
            exact absurd H (by simp)
        · rw [if_neg c9] at H
          have c9b0 : decide (x16_1 < (l0_0.length : Int)) = false := decide_eq_false c9
          clear c9
          obtain rfl := Option.some.inj H
          go_wp2
          repeat (go_quiet (fail); try go_wp2)
          go_ret
          exact ⟨by first | rfl | (simp [errW_none, errW_some] <;> rfl) | (simp [*, errW_none, errW_some] <;> rfl), by repeat (first | (with_reducible first | exact HB.out | apply below_alloc | apply pw_below_drewN | apply below_drew1 | refine below_set ?_ GE130.out | refine below_set ?_ GE131.out) | exact HB.out)⟩
  · rw [if_neg c3] at H
    have c3b0 : ((l0_0.length : Int) == (l1_0.length : Int)) = false := beq_eq_false_iff_ne.mpr c3
    have c3b1 : ((l0_0.length : Int) != (l1_0.length : Int)) = true := bne_iff_ne.mpr c3
    have c3b2 : (l0_0.length == l1_0.length) = false := by first | simpa using c3 | (simp at c3 ⊢; omega)
    obtain rfl := Option.some.inj H
    go_enter Tryd.func9, Tryd.ntmps9
    go_wp2_with (first | ((with_reducible refine gate_dst (N := 2) rfl ?_); refine box_event ?hg (N := 2) ?hd (cs := #[.slice A0_0 l0_0.length c0_0]) (t := 24) ?hr ?_; (case hd => rfl); (case hg => rfl); (case hr => first | (go_simp; done) | (go_simp; rfl)); intro gb130 hg w20 hbox hb; have n0_ := Aside0.mk (below_step (by repeat (first | (with_reducible first | exact HB.out | apply below_alloc | apply pw_below_drewN | apply below_drew1) | exact HB.out)) hb); have n1_ := Aside0.mk (hbox); have n2_ := Aside0.mk ((by rw [hg]; exact (below_size (by repeat (first | (with_reducible first | exact HB.out | apply below_alloc | apply pw_below_drewN | apply below_drew1) | exact HB.out))) : w.heap.size ≤ gb130)); have n3_ := Aside0.mk ((by rw [hg]; exact (below_size (by repeat (first | (with_reducible first | exact HB.out | apply below_alloc | apply pw_below_drewN | apply below_drew1) | exact HB.out))) : w.heap.size ≤ gb130)); clear HB; have HB := n0_; have BK130 := n1_; have GW130 := n2_; have GE130 := n3_; clear n0_ n1_ n2_ n3_; clear hb hbox hg) | ((with_reducible refine gate_dst (N := 3) rfl ?_); refine box_event ?hg (N := 3) ?hd (cs := #[.slice A1_0 l1_0.length c1_0]) (t := 24) ?hr ?_; (case hd => rfl); (case hg => rfl); (case hr => first | (go_simp; done) | (go_simp; rfl)); intro gb131 hg w21 hbox hb; have n0_ := Aside0.mk (blk_below (g := gb130) (o := .cells #[.slice A0_0 l0_0.length c0_0] 24 (0, 0)) (by (with_reducible repeat (first | refine blk_drewN ?_ _ | refine blk_drew ?_ | refine blk_alloc ?_ _)); exact BK130.out) hb); have n1_ := Aside0.mk (below_step (by repeat (first | (with_reducible first | exact HB.out | apply below_alloc | apply pw_below_drewN | apply below_drew1 | refine below_set ?_ GE130.out) | exact HB.out)) hb); have n2_ := Aside0.mk (hbox); have n3_ := Aside0.mk ((by rw [hg]; exact (below_size (by repeat (first | (with_reducible first | exact HB.out | apply below_alloc | apply pw_below_drewN | apply below_drew1 | refine below_set ?_ GE130.out) | exact HB.out))) : w.heap.size ≤ gb131)); have n4_ := Aside0.mk ((by rw [hg]; exact (below_size (by repeat (first | (with_reducible first | exact HB.out | apply below_alloc | apply pw_below_drewN | apply below_drew1 | refine below_set ?_ GE130.out) | exact HB.out))) : w.heap.size ≤ gb131)); have n5_ := Aside0.mk ((by rw [hg]; exact Nat.ne_of_lt (blk_lt (g := gb130) (o := .cells #[.slice A0_0 l0_0.length c0_0] 24 (0, 0)) (by (with_reducible repeat (first | refine blk_drewN ?_ _ | refine blk_drew ?_ | refine blk_alloc ?_ _)); exact BK130.out)) : gb130 ≠ gb131)); have n6_ := Aside0.mk ((by rw [hg]; exact Nat.ne_of_gt (blk_lt (g := gb130) (o := .cells #[.slice A0_0 l0_0.length c0_0] 24 (0, 0)) (by (with_reducible repeat (first | refine blk_drewN ?_ _ | refine blk_drew ?_ | refine blk_alloc ?_ _)); exact BK130.out)) : gb131 ≠ gb130)); clear BK130; clear HB; have BK130 := n0_; have HB := n1_; have BK131 := n2_; have GW131 := n3_; have GE131 := n4_; have NB130_131 := n5_; have NB131_130 := n6_; clear n0_ n1_ n2_ n3_ n4_ n5_ n6_; clear hb hbox hg; have hnb22 := NB130_131.out; have hnc22 := NB131_130.out; have hcz23_0 : w21.cell? ⟨gb130, 0, none⟩ = some (.slice A0_0 l0_0.length c0_0) := (blk_cell BK130.out 0).trans rfl; have hfz23_0 := blk_frozen BK130.out 0; have hcz24_0 : w21.cell? ⟨gb131, 0, none⟩ = some (.slice A1_0 l1_0.length c1_0) := (blk_cell BK131.out 0).trans rfl; have hfz24_0 := blk_frozen BK131.out 0))
    repeat (go_quiet (first | ((with_reducible refine gate_dst (N := 2) rfl ?_); refine box_event ?hg (N := 2) ?hd (cs := #[.slice A0_0 l0_0.length c0_0]) (t := 24) ?hr ?_; (case hd => rfl); (case hg => rfl); (case hr => first | (go_simp; done) | (go_simp; rfl)); intro gb130 hg w20 hbox hb; have n0_ := Aside0.mk (below_step (by repeat (first | (with_reducible first | exact HB.out | apply below_alloc | apply pw_below_drewN | apply below_drew1) | exact HB.out)) hb); have n1_ := Aside0.mk (hbox); have n2_ := Aside0.mk ((by rw [hg]; exact (below_size (by repeat (first | (with_reducible first | exact HB.out | apply below_alloc | apply pw_below_drewN | apply below_drew1) | exact HB.out))) : w.heap.size ≤ gb130)); have n3_ := Aside0.mk ((by rw [hg]; exact (below_size (by repeat (first | (with_reducible first | exact HB.out | apply below_alloc | apply pw_below_drewN | apply below_drew1) | exact HB.out))) : w.heap.size ≤ gb130)); clear HB; have HB := n0_; have BK130 := n1_; have GW130 := n2_; have GE130 := n3_; clear n0_ n1_ n2_ n3_; clear hb hbox hg) | ((with_reducible refine gate_dst (N := 3) rfl ?_); refine box_event ?hg (N := 3) ?hd (cs := #[.slice A1_0 l1_0.length c1_0]) (t := 24) ?hr ?_; (case hd => rfl); (case hg => rfl); (case hr => first | (go_simp; done) | (go_simp; rfl)); intro gb131 hg w21 hbox hb; have n0_ := Aside0.mk (blk_below (g := gb130) (o := .cells #[.slice A0_0 l0_0.length c0_0] 24 (0, 0)) (by (with_reducible repeat (first | refine blk_drewN ?_ _ | refine blk_drew ?_ | refine blk_alloc ?_ _)); exact BK130.out) hb); have n1_ := Aside0.mk (below_step (by repeat (first | (with_reducible first | exact HB.out | apply below_alloc | apply pw_below_drewN | apply below_drew1 | refine below_set ?_ GE130.out) | exact HB.out)) hb); have n2_ := Aside0.mk (hbox); have n3_ := Aside0.mk ((by rw [hg]; exact (below_size (by repeat (first | (with_reducible first | exact HB.out | apply below_alloc | apply pw_below_drewN | apply below_drew1 | refine below_set ?_ GE130.out) | exact HB.out))) : w.heap.size ≤ gb131)); have n4_ := Aside0.mk ((by rw [hg]; exact (below_size (by repeat (first | (with_reducible first | exact HB.out | apply below_alloc | apply pw_below_drewN | apply below_drew1 | refine below_set ?_ GE130.out) | exact HB.out))) : w.heap.size ≤ gb131)); have n5_ := Aside0.mk ((by rw [hg]; exact Nat.ne_of_lt (blk_lt (g := gb130) (o := .cells #[.slice A0_0 l0_0.length c0_0] 24 (0, 0)) (by (with_reducible repeat (first | refine blk_drewN ?_ _ | refine blk_drew ?_ | refine blk_alloc ?_ _)); exact BK130.out)) : gb130 ≠ gb131)); have n6_ := Aside0.mk ((by rw [hg]; exact Nat.ne_of_gt (blk_lt (g := gb130) (o := .cells #[.slice A0_0 l0_0.length c0_0] 24 (0, 0)) (by (with_reducible repeat (first | refine blk_drewN ?_ _ | refine blk_drew ?_ | refine blk_alloc ?_ _)); exact BK130.out)) : gb131 ≠ gb130)); clear BK130; clear HB; have BK130 := n0_; have HB := n1_; have BK131 := n2_; have GW131 := n3_; have GE131 := n4_; have NB130_131 := n5_; have NB131_130 := n6_; clear n0_ n1_ n2_ n3_ n4_ n5_ n6_; clear hb hbox hg; have hnb22 := NB130_131.out; have hnc22 := NB131_130.out; have hcz23_0 : w21.cell? ⟨gb130, 0, none⟩ = some (.slice A0_0 l0_0.length c0_0) := (blk_cell BK130.out 0).trans rfl; have hfz23_0 := blk_frozen BK130.out 0; have hcz24_0 : w21.cell? ⟨gb131, 0, none⟩ = some (.slice A1_0 l1_0.length c1_0) := (blk_cell BK131.out 0).trans rfl; have hfz24_0 := blk_frozen BK131.out 0)); try go_wp2_with (first | ((with_reducible refine gate_dst (N := 2) rfl ?_); refine box_event ?hg (N := 2) ?hd (cs := #[.slice A0_0 l0_0.length c0_0]) (t := 24) ?hr ?_; (case hd => rfl); (case hg => rfl); (case hr => first | (go_simp; done) | (go_simp; rfl)); intro gb130 hg w20 hbox hb; have n0_ := Aside0.mk (below_step (by repeat (first | (with_reducible first | exact HB.out | apply below_alloc | apply pw_below_drewN | apply below_drew1) | exact HB.out)) hb); have n1_ := Aside0.mk (hbox); have n2_ := Aside0.mk ((by rw [hg]; exact (below_size (by repeat (first | (with_reducible first | exact HB.out | apply below_alloc | apply pw_below_drewN | apply below_drew1) | exact HB.out))) : w.heap.size ≤ gb130)); have n3_ := Aside0.mk ((by rw [hg]; exact (below_size (by repeat (first | (with_reducible first | exact HB.out | apply below_alloc | apply pw_below_drewN | apply below_drew1) | exact HB.out))) : w.heap.size ≤ gb130)); clear HB; have HB := n0_; have BK130 := n1_; have GW130 := n2_; have GE130 := n3_; clear n0_ n1_ n2_ n3_; clear hb hbox hg) | ((with_reducible refine gate_dst (N := 3) rfl ?_); refine box_event ?hg (N := 3) ?hd (cs := #[.slice A1_0 l1_0.length c1_0]) (t := 24) ?hr ?_; (case hd => rfl); (case hg => rfl); (case hr => first | (go_simp; done) | (go_simp; rfl)); intro gb131 hg w21 hbox hb; have n0_ := Aside0.mk (blk_below (g := gb130) (o := .cells #[.slice A0_0 l0_0.length c0_0] 24 (0, 0)) (by (with_reducible repeat (first | refine blk_drewN ?_ _ | refine blk_drew ?_ | refine blk_alloc ?_ _)); exact BK130.out) hb); have n1_ := Aside0.mk (below_step (by repeat (first | (with_reducible first | exact HB.out | apply below_alloc | apply pw_below_drewN | apply below_drew1 | refine below_set ?_ GE130.out) | exact HB.out)) hb); have n2_ := Aside0.mk (hbox); have n3_ := Aside0.mk ((by rw [hg]; exact (below_size (by repeat (first | (with_reducible first | exact HB.out | apply below_alloc | apply pw_below_drewN | apply below_drew1 | refine below_set ?_ GE130.out) | exact HB.out))) : w.heap.size ≤ gb131)); have n4_ := Aside0.mk ((by rw [hg]; exact (below_size (by repeat (first | (with_reducible first | exact HB.out | apply below_alloc | apply pw_below_drewN | apply below_drew1 | refine below_set ?_ GE130.out) | exact HB.out))) : w.heap.size ≤ gb131)); have n5_ := Aside0.mk ((by rw [hg]; exact Nat.ne_of_lt (blk_lt (g := gb130) (o := .cells #[.slice A0_0 l0_0.length c0_0] 24 (0, 0)) (by (with_reducible repeat (first | refine blk_drewN ?_ _ | refine blk_drew ?_ | refine blk_alloc ?_ _)); exact BK130.out)) : gb130 ≠ gb131)); have n6_ := Aside0.mk ((by rw [hg]; exact Nat.ne_of_gt (blk_lt (g := gb130) (o := .cells #[.slice A0_0 l0_0.length c0_0] 24 (0, 0)) (by (with_reducible repeat (first | refine blk_drewN ?_ _ | refine blk_drew ?_ | refine blk_alloc ?_ _)); exact BK130.out)) : gb131 ≠ gb130)); clear BK130; clear HB; have BK130 := n0_; have HB := n1_; have BK131 := n2_; have GW131 := n3_; have GE131 := n4_; have NB130_131 := n5_; have NB131_130 := n6_; clear n0_ n1_ n2_ n3_ n4_ n5_ n6_; clear hb hbox hg; have hnb22 := NB130_131.out; have hnc22 := NB131_130.out; have hcz23_0 : w21.cell? ⟨gb130, 0, none⟩ = some (.slice A0_0 l0_0.length c0_0) := (blk_cell BK130.out 0).trans rfl; have hfz23_0 := blk_frozen BK130.out 0; have hcz24_0 : w21.cell? ⟨gb131, 0, none⟩ = some (.slice A1_0 l1_0.length c1_0) := (blk_cell BK131.out 0).trans rfl; have hfz24_0 := blk_frozen BK131.out 0)))
    go_ret
    exact ⟨by first | rfl | (simp [errW_none, errW_some] <;> rfl) | (simp [*, errW_none, errW_some] <;> rfl), by repeat (first | (with_reducible first | exact HB.out | apply below_alloc | apply pw_below_drewN | apply below_drew1 | refine below_set ?_ GE130.out | refine below_set ?_ GE131.out) | exact HB.out)⟩

end Go.Proofs.YtodldpdnhcafpaaDoor.F

namespace Go.Proofs.YtodldpdnhcafpaaDoor.Q
open Go.RowKit Go.Proofs.YtodldpdnhcafpaaDoorW.PrintWords Go.Proofs.YtodldpdnhcafpaaDoorW.PrintLast Go.Proofs.YtodldpdnhcafpaaDoorW.PrintMore
open Go.Proofs.YtodldpdnhcafpaaDoor.F

theorem SameTokens_loop (l : List S68) (hl : l.length ≤ 9223372036854775807) (d : Nat) : ∀ i, i ≤ l.length → l.length - i = d →
    Ev (fun k => monikerplain_SameTokens.l0 k l l (l.length : Int) (i : Int)) true := by
  induction d with
  | zero =>
    intro i h1 h2
    refine ⟨1, fun n hn => ?_⟩
    obtain ⟨k, rfl⟩ : ∃ m, n = m + 1 := ⟨n - 1, by omega⟩
    simp only [monikerplain_SameTokens.l0]
    rw [if_neg (by omega)]
  | succ d ih =>
    intro i h1 h2
    obtain ⟨K, hK⟩ := ih (i + 1) (by omega) (by omega)
    refine ⟨K + 1, fun n hn => ?_⟩
    obtain ⟨k, rfl⟩ : ∃ m, n = m + 1 := ⟨n - 1, by omega⟩
    simp only [monikerplain_SameTokens.l0]
    rw [if_pos (by omega), if_pos (by omega), if_pos (by omega), if_pos (by omega), if_neg (by simp), show wrap64 ((i : Int) + 1) = ((i + 1 : Nat) : Int) by unfold wrap64; omega]
    exact hK k (by omega)
theorem SameTokens_is (l : List S68) (hl : l.length ≤ 9223372036854775807) : Ev (fun k => monikerplain_SameTokens.f k l l) true := by
  unfold monikerplain_SameTokens.f
  simp only [↓reduceIte]
  exact SameTokens_loop l hl l.length 0 (by omega) (by omega)

theorem SameTree_loop (l : List S43) (hl : l.length ≤ 9223372036854775807) (d : Nat) : ∀ i, i ≤ l.length → l.length - i = d →
    Ev (fun k => monikerplain_SameTree.l0 k (l.length : Int) (i : Int) l l) true := by
  induction d with
  | zero =>
    intro i h1 h2
    refine ⟨1, fun n hn => ?_⟩
    obtain ⟨k, rfl⟩ : ∃ m, n = m + 1 := ⟨n - 1, by omega⟩
    simp only [monikerplain_SameTree.l0]
    rw [if_neg (by omega)]
  | succ d ih =>
    intro i h1 h2
    obtain ⟨K, hK⟩ := ih (i + 1) (by omega) (by omega)
    refine ⟨K + 1, fun n hn => ?_⟩
    obtain ⟨k, rfl⟩ : ∃ m, n = m + 1 := ⟨n - 1, by omega⟩
    simp only [monikerplain_SameTree.l0]
    rw [if_pos (by omega), if_pos (by omega), if_pos (by omega), if_pos (by omega), if_neg (by simp), show wrap64 ((i : Int) + 1) = ((i + 1 : Nat) : Int) by unfold wrap64; omega]
    exact hK k (by omega)
theorem SameTree_is (l : List S43) (hl : l.length ≤ 9223372036854775807) : Ev (fun k => monikerplain_SameTree.f k l l) true := by
  unfold monikerplain_SameTree.f
  simp only [↓reduceIte]
  exact SameTree_loop l hl l.length 0 (by omega) (by omega)
end Go.Proofs.YtodldpdnhcafpaaDoor.Q

namespace Go.Proofs.YtodldpdnhcafpaaDoor.H
open Go.RowKit Go.Proofs.YtodldpdnhcafpaaDoorW.PrintWords Go.Proofs.YtodldpdnhcafpaaDoorW.PrintLast Go.Proofs.YtodldpdnhcafpaaDoorW.PrintMore
open Go.Proofs.YtodldpdnhcafpaaDoor.F
attribute [local go_sem high] eqA68 eqA43
set_option linter.unusedVariables false
set_option linter.unusedSimpArgs false

set_option maxHeartbeats 4000000 in
set_option maxRecDepth 100000 in
theorem kept_calls (t t' : ByteArray) (A B A1 A2 : Option Addr) (c1 c2 : Nat) (ps : List S68) (ns : List S43) (w : World) (hL1 : Kd.C k68 w A (ps.length + 2) (ps ++ marks68)) (hL2 : Kd.C k43 w B (ns.length + 2) (ns ++ marks43))
    (hr1 : Kd.C k68 w A1 ps.length ps) (hc1 : ps.length ≤ c1) (hr2 : Kd.C k43 w A2 ns.length ns) (hc2 : ns.length ≤ c2) (hl1 : ps.length ≤ 5864062014805) (hl2 : ns.length ≤ 4398046511104) :
    Calls Tryd.prog 13 #[.agg #[.string t, .slice A ps.length (ps.length + 2), .slice B ns.length (ns.length + 2)], .agg #[.string t', .slice A1 ps.length c1, .slice A2 ns.length c2]] w fun e w' => e = .returned (.bool true) ∧ Below w.heap.size w w' := by
  have hu68 := Tryd.underlying68
  have hu43 := Tryd.underlying43
  have hu34 := Tryd.underlying34
  have hu24 := Tryd.underlying24
  obtain ⟨k1, hk1⟩ := (Q.SameTokens_is ps (by omega)).rounds
  obtain ⟨k2, hk2⟩ := (Q.SameTree_is ns (by omega)).rounds
  have r0 : rd_T68 (ps ++ marks68) (ps.length : Int) = ⟨0, -5, -6⟩ := by simp [rd_T68, marks68]
  have r1 : rd_T68 (ps ++ marks68) ((ps.length : Int) + 1) = ⟨77, 0, 0⟩ := by
    rw [rd_T68, show ((ps.length : Int) + 1).toNat = ps.length + 1 by omega]; simp [marks68]
  have s0 : rd_T43 (ns ++ marks43) (ns.length : Int) = ⟨99, -3, 0, -4⟩ := by simp [rd_T43, marks43]
  have s1 : rd_T43 (ns ++ marks43) ((ns.length : Int) + 1) = ⟨0, 0, 12345, 0⟩ := by
    rw [rd_T43, show ((ns.length : Int) + 1).toNat = ns.length + 1 by omega]; simp [marks43]
  obtain ⟨a, e0, x00, x01, x02⟩ := at_T68 hL1 (ps.length : Int) (by omega) (by omega)
  subst e0
  obtain ⟨_, e1, x10, x11, x12⟩ := at_T68 hL1 ((ps.length : Int) + 1) (by omega) (by omega)
  cases e1
  obtain ⟨b, e0, y00, y01, y02, y03⟩ := at_T43 hL2 (ns.length : Int) (by omega) (by omega)
  subst e0
  obtain ⟨_, e1, y10, y11, y12, y13⟩ := at_T43 hL2 ((ns.length : Int) + 1) (by omega) (by omega)
  cases e1
  rw [r0] at x00 x01 x02
  rw [r1] at x10 x11 x12
  rw [s0] at y00 y01 y02 y03
  rw [s1] at y10 y11 y12 y13
  clear r0 r1 s0 s1
  simp only [Int.toNat_natCast] at x00 x01 x02 y00 y01 y02 y03
  rw [show ((ps.length : Int) + 1).toNat = ps.length + 1 by omega] at x10 x11 x12
  rw [show ((ns.length : Int) + 1).toNat = ns.length + 1 by omega] at y10 y11 y12 y13
  have p00w := Aside0.mk x00
  have p01w := Aside0.mk x01
  have p02w := Aside0.mk x02
  have p10w := Aside0.mk x10
  have p11w := Aside0.mk x11
  have p12w := Aside0.mk x12
  have m00w := Aside0.mk y00
  have m01w := Aside0.mk y01
  have m02w := Aside0.mk y02
  have m03w := Aside0.mk y03
  have m10w := Aside0.mk y10
  have m11w := Aside0.mk y11
  have m12w := Aside0.mk y12
  have m13w := Aside0.mk y13
  clear x00 x01 x02 x10 x11 x12 y00 y01 y02 y03 y10 y11 y12 y13
  have HS1 := Aside0.mk (C_lent68 hL1)
  have HS2 := Aside0.mk (C_lent43 hL2)
  have HR1 := Aside0.mk hr1
  have HR2 := Aside0.mk hr2
  have HC1 := Aside0.mk hc1
  have HC2 := Aside0.mk hc2
  have HK1 := Aside0.mk hk1
  have HK2 := Aside0.mk hk2
  clear hL1 hL2 hr1 hr2 hc1 hc2 hk1 hk2
  go_enter Tryd.func13, Tryd.ntmps13
  go_wp2_with (first
    | ((with_reducible refine gate_dst (N := 2) rfl ?_); refine box_event ?hg (N := 2) ?hd (cs := #[.string t, .slice (some a) ps.length (ps.length + 2), .slice (some b) ns.length (ns.length + 2)]) (t := 34) ?hr ?_; (case hd => rfl); (case hg => rfl); (case hr => first | (go_simp; done) | (go_simp; rfl)); intro gb1 hge w1 hbox hb; have BK1 := Aside0.mk hbox; have HB := Aside0.mk hb; clear hbox hge hb)
    | ((with_reducible refine gate_dst (N := 3) rfl ?_); refine box_event ?hg (N := 3) ?hd (cs := #[.string t', .slice A1 ps.length c1, .slice A2 ns.length c2]) (t := 34) ?hr ?_; (case hd => rfl); (case hg => rfl); (case hr => first | (go_simp; done) | (go_simp; rfl)); intro gb2 hge w2 hbox hb; have BK2 := Aside0.mk hbox; have n0_ := Aside0.mk (blk_below BK1.out hb); have n1_ := Aside0.mk (below_step HB.out hb); clear BK1; clear HB; have BK1 := n0_; have HB := n1_; clear n0_ n1_; clear hbox hge hb; have hxgb10 : w2.cell? ⟨gb1, 0, none⟩ = some (.string t) := (blk_cell BK1.out 0).trans rfl; have hxgb11 : w2.cell? ⟨gb1, 1, none⟩ = some (.slice (some a) ps.length (ps.length + 2)) := (blk_cell BK1.out 1).trans rfl; have hxgb12 : w2.cell? ⟨gb1, 2, none⟩ = some (.slice (some b) ns.length (ns.length + 2)) := (blk_cell BK1.out 2).trans rfl; have hxgb20 : w2.cell? ⟨gb2, 0, none⟩ = some (.string t') := (blk_cell BK2.out 0).trans rfl; have hxgb21 : w2.cell? ⟨gb2, 1, none⟩ = some (.slice A1 ps.length c1) := (blk_cell BK2.out 1).trans rfl; have hxgb22 : w2.cell? ⟨gb2, 2, none⟩ = some (.slice A2 ns.length c2) := (blk_cell BK2.out 2).trans rfl)
    | ((with_reducible refine gate_callee (f := 43) rfl ?_); refine goesL_ (some 11) rfl rfl Tryd.func43 (by kernel_rfl) rfl #[.slice (some a) ps.length (ps.length + 2), .slice A1 ps.length c1] rfl (by (try simp only [List.map_toArray, List.map_cons, List.map_nil]); first | done | rfl) ?_; (with_reducible refine (monikerplain_SameTokens.calls k1 _ _ ps _ _ ps true _ (Kd.C_below HS1.out HB.out) (by omega) (Kd.C_below HR1.out HB.out) HC1.out HK1.out).mono ?_); rintro e w' ⟨rfl, ⟨nd, rfl⟩⟩; refine ⟨_, rfl, ?_⟩)
    )
  refine (monikerplain_SameTree.calls k2 _ _ ns _ _ ns true _ (Kd.C_drewN (Kd.C_below HS2.out HB.out) _) (by omega) (Kd.C_drewN (Kd.C_below HR2.out HB.out) _) HC2.out HK2.out).mono ?_
  rintro e w3 ⟨rfl, hb⟩
  clear hxgb10 hxgb11 hxgb12 hxgb20 hxgb21 hxgb22
  have n0_ := Aside0.mk (blk_below (blk_drewN BK1.out nd) hb)
  have n1_ := Aside0.mk (blk_below (blk_drewN BK2.out nd) hb)
  have n2_ := Aside0.mk (below_step (pw_below_drewN HB.out nd) hb)
  clear BK1
  clear BK2
  clear HB
  have BK1 := n0_
  have BK2 := n1_
  have HB := n2_
  clear n0_ n1_ n2_
  clear hb
  have hxgb10 : w3.cell? ⟨gb1, 0, none⟩ = some (.string t) := (blk_cell BK1.out 0).trans rfl
  have hxgb11 : w3.cell? ⟨gb1, 1, none⟩ = some (.slice (some a) ps.length (ps.length + 2)) := (blk_cell BK1.out 1).trans rfl
  have hxgb12 : w3.cell? ⟨gb1, 2, none⟩ = some (.slice (some b) ns.length (ns.length + 2)) := (blk_cell BK1.out 2).trans rfl
  have hxgb20 : w3.cell? ⟨gb2, 0, none⟩ = some (.string t') := (blk_cell BK2.out 0).trans rfl
  have hxgb21 : w3.cell? ⟨gb2, 1, none⟩ = some (.slice A1 ps.length c1) := (blk_cell BK2.out 1).trans rfl
  have hxgb22 : w3.cell? ⟨gb2, 2, none⟩ = some (.slice A2 ns.length c2) := (blk_cell BK2.out 2).trans rfl
  have p00 := pw_cell_below HB.out p00w.out
  have p01 := pw_cell_below HB.out p01w.out
  have p02 := pw_cell_below HB.out p02w.out
  have p10 := pw_cell_below HB.out p10w.out
  have p11 := pw_cell_below HB.out p11w.out
  have p12 := pw_cell_below HB.out p12w.out
  have m00 := pw_cell_below HB.out m00w.out
  have m01 := pw_cell_below HB.out m01w.out
  have m02 := pw_cell_below HB.out m02w.out
  have m03 := pw_cell_below HB.out m03w.out
  have m10 := pw_cell_below HB.out m10w.out
  have m11 := pw_cell_below HB.out m11w.out
  have m12 := pw_cell_below HB.out m12w.out
  have m13 := pw_cell_below HB.out m13w.out
  go_wp2_with fail


  go_ret
  exact ⟨rfl, HB.out⟩
end Go.Proofs.YtodldpdnhcafpaaDoor.H

namespace Go.Proofs.YtodldpdnhcafpaaDoor.L
open Go.RowKit Go.Proofs.YtodldpdnhcafpaaDoorW.PrintWords Go.Proofs.YtodldpdnhcafpaaDoorW.PrintLast Go.Proofs.YtodldpdnhcafpaaDoorW.PrintMore
open Go.Proofs.YtodldpdnhcafpaaDoor.F Go.Proofs.YtodldpdnhcafpaaDoor.H

/-- What the law's walk holds of the world: the two forests' boxes and rows. -/
structure Hold (t : ByteArray) (A1 A2 A B : Option Addr) (c1 c2 : Nat) (ps : List S68) (ns : List S43) (g1 g2 : Nat) (w w' : World) : Prop where
  b1 : w'.heap[g1]? = some (.cells #[.string t, .slice A1 ps.length c1, .slice A2 ns.length c2] 34 (0, 0))
  b2 : w'.heap[g2]? = some (.cells #[.string t, .slice A ps.length (ps.length + 2), .slice B ns.length (ns.length + 2)] 34 (0, 0))
  r1 : Kd.C k68 w' A1 ps.length ps
  r2 : Kd.C k43 w' A2 ns.length ns
  l1 : Kd.C k68 w' A (ps.length + 2) (ps ++ marks68)
  l2 : Kd.C k43 w' B (ns.length + 2) (ns ++ marks43)
  be : Below w.heap.size w w'
theorem Hold.below {t : ByteArray} {A1 A2 A B : Option Addr} {c1 c2 : Nat} {ps : List S68} {ns : List S43} {g1 g2 : Nat} {w w' w'' : World} (h : Hold t A1 A2 A B c1 c2 ps ns g1 g2 w w') (hb : Below w'.heap.size w' w'') : Hold t A1 A2 A B c1 c2 ps ns g1 g2 w w'' :=
  ⟨blk_below h.b1 hb, blk_below h.b2 hb, Kd.C_below h.r1 hb, Kd.C_below h.r2 hb, Kd.C_below h.l1 hb, Kd.C_below h.l2 hb, below_step h.be hb⟩
theorem Hold.drew {t : ByteArray} {A1 A2 A B : Option Addr} {c1 c2 : Nat} {ps : List S68} {ns : List S43} {g1 g2 : Nat} {w w' : World} (h : Hold t A1 A2 A B c1 c2 ps ns g1 g2 w w') : Hold t A1 A2 A B c1 c2 ps ns g1 g2 w w'.drew :=
  h.below (below_drew (Below.refl _ _))

end Go.Proofs.YtodldpdnhcafpaaDoor.L

namespace Go.Proofs.YtodldpdnhcafpaaDoor.O
open Go.ChangeShapes Go.WideShapes Go.Deep Go.Proofs.YtodldpdnhcafpaaDoorW.PrintWords

/-- What a value of type t that came in is, as a Lean value of kind d; and what is known of it. -/
def Opens {α : Type} (P : Program) (t : TypeId) (d : Kd α) (B : α → Prop) : Prop :=
  ∀ {H : Type} {enc : TypeId × Value → H} {w : World} {base : Nat} {spare : Nat → Bool} {held : Bool} {fuel : Nat} {cs : List Value} {x : DataW H × List MemPlace},
    DataW.trod enc P w base spare held fuel t cs = some x → (∀ n ∈ x.1.weights P t, n ≤ reachBytes) → ∃ a, d.K w a cs ∧ B a

theorem opens_int {P : Program} {t : TypeId} {k : IntKind} (hu : P.underlying t = some (.int k)) : Opens P t (Kd.int k) (fun n => (Lit.int k n).wf = true) := fun h _ => by
  obtain ⟨n, rfl, rfl, hw⟩ := DataW.trod_int hu h
  exact ⟨n, rfl, hw⟩
theorem mem_weightsAll {H : Type} {P : Program} {e : TypeId} : ∀ {l : List (DataW H)} {y : DataW H}, y ∈ l → ∀ n ∈ y.weights P e, n ∈ DataW.weightsAll P e l
  | y0 :: l, y, h, n, hn => by
    simp only [DataW.weightsAll, List.mem_append]
    rcases List.mem_cons.1 h with rfl | h
    · exact .inl hn
    · exact .inr (mem_weightsAll h n hn)

/-- A slice that came in, its address and capacity told. -/
theorem open_row {α : Type} {P : Program} {t e : TypeId} {d : Kd α} {B : α → Prop} (hu : P.underlying t = some (.slice e)) (he : Opens P e d B) (hc : P.cellsOf e = d.sz)
    {H : Type} {enc : TypeId × Value → H} {w : World} {base : Nat} {spare : Nat → Bool} {held : Bool} {fuel : Nat} {A : Option Addr} {n c : Nat} {x : DataW H × List MemPlace}
    (h : DataW.trod enc P w base spare held fuel t [.slice A n c] = some x) (hw : ∀ n ∈ x.1.weights P t, n ≤ reachBytes) :
    ∃ xs : List α, xs.length = n ∧ d.C w A n xs ∧ n ≤ c ∧ (A = none → c = 0) ∧ (∀ a ∈ xs, B a) ∧ n * P.bytesOf e ≤ 140737488351232 := by
  rcases open_slice hu h with ⟨hcs, rfl⟩ | ⟨a, len, cap, m, fu, D, Pl, hcs, hb, hl, hm, hmm, rfl, hel⟩
  · simp only [List.cons.injEq, Value.slice.injEq, and_true] at hcs
    obtain ⟨rfl, rfl, rfl⟩ := hcs
    exact ⟨[], rfl, ⟨rfl, by omega, fun h0 => absurd h0 (by omega)⟩, by omega, fun _ => rfl, (fun a ha => by cases ha), by omega⟩
  · simp only [List.cons.injEq, Value.slice.injEq, and_true] at hcs
    obtain ⟨rfl, rfl, rfl⟩ := hcs
    have hlm : n ≤ m := by rw [hmm]; split <;> omega
    have hex : ∀ i, i < n → ∃ v : α, (∃ cs, d.K w v cs ∧ ∀ j u, cs[j]? = some u → w.cell? (a.add (i * d.sz + j)) = some u) ∧ B v := by
      intro i hi
      obtain ⟨cs', hc1, hc2⟩ := hel i (by omega)
      have hmem : D i ∈ (List.range n).map D := List.mem_map.2 ⟨i, List.mem_range.2 hi, rfl⟩
      obtain ⟨v, hv, hB⟩ := he hc2 (fun q hq => hw q (by
        simp only [DataW.weights, hu, List.mem_cons, List.mem_append]
        exact .inr (.inl (mem_weightsAll hmem q hq))))
      refine ⟨v, ⟨cs', hv, fun j u hj => ?_⟩, hB⟩
      obtain ⟨_, hcl, hat⟩ := World.cells?_some hc1
      have hjl : j < cs'.length := (List.getElem?_eq_some_iff.1 hj).1
      have := hat j (by omega)
      rw [hc] at this
      rw [← Go.Deep.add_add, this, hj]
    have key : ∀ k, k ≤ n → ∃ xs : List α, xs.length = k ∧ (∀ j p, xs[j]? = some p → (∃ cs, cs.length = d.sz ∧ d.K w p cs ∧ ∀ i u, cs[i]? = some u → w.cell? (a.add (j * d.sz + i)) = some u) ∧ B p) := by
      intro k
      induction k with
      | zero => intro _; exact ⟨[], rfl, fun j p hj => by simp at hj⟩
      | succ k ih =>
        intro hk
        obtain ⟨xs, hx, hxs⟩ := ih (by omega)
        obtain ⟨v, ⟨cs, hv, hcell⟩, hB⟩ := hex k (by omega)
        refine ⟨xs ++ [v], by simp [hx], fun j p hj => ?_⟩
        rcases Nat.lt_or_ge j k with hjk | hjk
        · rw [List.getElem?_append_left (by omega)] at hj
          exact hxs j p hj
        · have hjl := (List.getElem?_eq_some_iff.1 hj).1
          rw [List.length_append, List.length_singleton] at hjl
          obtain rfl : j = k := by omega
          have hp : v = p := by simpa [List.getElem?_append_right, hx] using hj
          subst hp
          exact ⟨⟨cs, d.K_len hv, hv, hcell⟩, hB⟩
    obtain ⟨xs, hx, hxs⟩ := key n (Nat.le_refl _)
    refine ⟨xs, hx, ⟨hx, by have : maxLen = 9223372036854775807 := rfl; omega, fun _ => ⟨a, rfl, fun j p hj => (hxs j p hj).1⟩⟩, hl, (fun h => by cases h), fun v hv => ?_, ?_⟩
    · obtain ⟨j, hj, rfl⟩ := List.mem_iff_getElem.1 hv
      exact (hxs j _ (List.getElem?_eq_getElem hj)).2
    · have := hw ((((List.range n).map D).length + ((List.range (m - n)).map fun j => D (n + j)).length) * P.bytesOf e) (by
        simp only [DataW.weights, hu]
        exact List.mem_cons_self)
      simp only [List.length_map, List.length_range] at this
      have h2 : n * P.bytesOf e ≤ (n + (m - n)) * P.bytesOf e := Nat.mul_le_mul_right _ (by omega)
      have h3 : reachBytes = 140737488351232 := rfl
      omega

end Go.Proofs.YtodldpdnhcafpaaDoor.O

namespace Go.Proofs.YtodldpdnhcafpaaDoor.H
set_option maxRecDepth 100000
open Go.ChangeShapes Go.WideShapes Go.Deep Go.Proofs.YtodldpdnhcafpaaDoorW.PrintWords Go.Proofs.YtodldpdnhcafpaaDoor.F

theorem cells3 : Tryd.prog.cellsOf 3 = 1 := by kernel_rfl
theorem cells9 : Tryd.prog.cellsOf 9 = 1 := by kernel_rfl
theorem cells32 : Tryd.prog.cellsOf 32 = 1 := by kernel_rfl
theorem cells22 : Tryd.prog.cellsOf 22 = 1 := by kernel_rfl
theorem cells24 : Tryd.prog.cellsOf 24 = 1 := by kernel_rfl
theorem cells34 : Tryd.prog.cellsOf 34 = 3 := by kernel_rfl
theorem cells41 : Tryd.prog.cellsOf 41 = 1 := by kernel_rfl
theorem cells66 : Tryd.prog.cellsOf 66 = 1 := by kernel_rfl
theorem bytes68 : Tryd.prog.bytesOf 68 = 24 := by kernel_rfl
theorem bytes43 : Tryd.prog.bytesOf 43 = 32 := by kernel_rfl
def B68 (x : S68) : Prop := (Lit.int .u8 x.f0).wf = true ∧ (Lit.int .i64 x.f1).wf = true ∧ (Lit.int .i64 x.f2).wf = true
theorem cells68 : Tryd.prog.cellsOf 68 = 3 := by kernel_rfl
theorem opens68 : O.Opens Tryd.prog 68 k68 B68 := by
  intro H enc w base spare held fuel cs x h hw
  obtain ⟨ys, n, rfl, rfl, hlen, hyl, hf⟩ := DataW.trod_struct Tryd.underlying68 h
  rw [cells68] at hlen
  obtain ⟨c0, c1, c2, rfl⟩ : ∃ c0 c1 c2, cs = [c0, c1, c2] := by
    match cs, hlen with
    | [c0, c1, c2], _ => exact ⟨c0, c1, c2, rfl⟩
  obtain ⟨y0, y1, y2, rfl⟩ : ∃ y0 y1 y2, ys = [y0, y1, y2] := by
    match ys, hyl with
    | [y0, y1, y2], _ => exact ⟨y0, y1, y2, rfl⟩
  have f0 := hf 0 { name := "Kind", type := 66, offset := 0, embedded := false, tag := "", pkgPath := "", byteOffset := 0 } rfl
  have f1 := hf 1 { name := "From", type := 3, offset := 1, embedded := false, tag := "", pkgPath := "", byteOffset := 8 } rfl
  have f2 := hf 2 { name := "To", type := 3, offset := 2, embedded := false, tag := "", pkgPath := "", byteOffset := 16 } rfl
  simp only [cells3, cells66, List.drop_zero, List.drop_succ_cons, List.take_succ_cons, List.take_zero, List.getElem?_cons_zero, List.getElem?_cons_succ] at f0 f1 f2
  have hq : ∀ (j : Nat) (t : TypeId) (d : DataW H), [66, 3, 3][j]? = some t → [y0.1, y1.1, y2.1][j]? = some d → ∀ n ∈ d.weights Tryd.prog t, n ≤ reachBytes := by
    intro j t d h1 h2 q hq
    refine hw q ?_
    simp only [DataW.weights, Tryd.underlying68]
    exact DataW.weights_mem_each (j := j) h1 h2 q hq
  obtain ⟨a0, e0, w0⟩ := O.opens_int Tryd.underlying66 f0 (hq 0 _ _ rfl rfl)
  obtain rfl : c0 = .int .u8 a0 := (List.cons.inj e0).1
  obtain ⟨a1, e1, w1⟩ := O.opens_int Tryd.underlying3 f1 (hq 1 _ _ rfl rfl)
  obtain rfl : c1 = .int .i64 a1 := (List.cons.inj e1).1
  obtain ⟨a2, e2, w2⟩ := O.opens_int Tryd.underlying3 f2 (hq 2 _ _ rfl rfl)
  obtain rfl : c2 = .int .i64 a2 := (List.cons.inj e2).1
  exact ⟨⟨a0, a1, a2⟩, k68_mk w _, w0, w1, w2⟩
def B43 (x : S43) : Prop := (Lit.int .u8 x.f0).wf = true ∧ (Lit.int .i64 x.f1).wf = true ∧ (Lit.int .i64 x.f2).wf = true ∧ (Lit.int .i64 x.f3).wf = true
theorem cells43 : Tryd.prog.cellsOf 43 = 4 := by kernel_rfl
theorem opens43 : O.Opens Tryd.prog 43 k43 B43 := by
  intro H enc w base spare held fuel cs x h hw
  obtain ⟨ys, n, rfl, rfl, hlen, hyl, hf⟩ := DataW.trod_struct Tryd.underlying43 h
  rw [cells43] at hlen
  obtain ⟨c0, c1, c2, c3, rfl⟩ : ∃ c0 c1 c2 c3, cs = [c0, c1, c2, c3] := by
    match cs, hlen with
    | [c0, c1, c2, c3], _ => exact ⟨c0, c1, c2, c3, rfl⟩
  obtain ⟨y0, y1, y2, y3, rfl⟩ : ∃ y0 y1 y2 y3, ys = [y0, y1, y2, y3] := by
    match ys, hyl with
    | [y0, y1, y2, y3], _ => exact ⟨y0, y1, y2, y3, rfl⟩
  have f0 := hf 0 { name := "Kind", type := 41, offset := 0, embedded := false, tag := "", pkgPath := "", byteOffset := 0 } rfl
  have f1 := hf 1 { name := "First", type := 3, offset := 1, embedded := false, tag := "", pkgPath := "", byteOffset := 8 } rfl
  have f2 := hf 2 { name := "End", type := 3, offset := 2, embedded := false, tag := "", pkgPath := "", byteOffset := 16 } rfl
  have f3 := hf 3 { name := "Size", type := 3, offset := 3, embedded := false, tag := "", pkgPath := "", byteOffset := 24 } rfl
  simp only [cells3, cells41, List.drop_zero, List.drop_succ_cons, List.take_succ_cons, List.take_zero, List.getElem?_cons_zero, List.getElem?_cons_succ] at f0 f1 f2 f3
  have hq : ∀ (j : Nat) (t : TypeId) (d : DataW H), [41, 3, 3, 3][j]? = some t → [y0.1, y1.1, y2.1, y3.1][j]? = some d → ∀ n ∈ d.weights Tryd.prog t, n ≤ reachBytes := by
    intro j t d h1 h2 q hq
    refine hw q ?_
    simp only [DataW.weights, Tryd.underlying43]
    exact DataW.weights_mem_each (j := j) h1 h2 q hq
  obtain ⟨a0, e0, w0⟩ := O.opens_int Tryd.underlying41 f0 (hq 0 _ _ rfl rfl)
  obtain rfl : c0 = .int .u8 a0 := (List.cons.inj e0).1
  obtain ⟨a1, e1, w1⟩ := O.opens_int Tryd.underlying3 f1 (hq 1 _ _ rfl rfl)
  obtain rfl : c1 = .int .i64 a1 := (List.cons.inj e1).1
  obtain ⟨a2, e2, w2⟩ := O.opens_int Tryd.underlying3 f2 (hq 2 _ _ rfl rfl)
  obtain rfl : c2 = .int .i64 a2 := (List.cons.inj e2).1
  obtain ⟨a3, e3, w3⟩ := O.opens_int Tryd.underlying3 f3 (hq 3 _ _ rfl rfl)
  obtain rfl : c3 = .int .i64 a3 := (List.cons.inj e3).1
  exact ⟨⟨a0, a1, a2, a3⟩, k43_mk w _, w0, w1, w2, w3⟩

theorem slice_cells {P : Program} {t e : TypeId} (hu : P.underlying t = some (.slice e)) {H : Type} {enc : TypeId × Value → H} {w : World} {base : Nat} {spare : Nat → Bool} {held : Bool} {fuel : Nat} {cs : List Value} {x : DataW H × List MemPlace}
    (h : DataW.trod enc P w base spare held fuel t cs = some x) : ∃ A n c, cs = [.slice A n c] := by
  rcases open_slice hu h with ⟨hcs, _⟩ | ⟨a, len, cap, m, fu, D, Pl, hcs, _⟩
  · exact ⟨_, _, _, hcs⟩
  · exact ⟨_, _, _, hcs⟩

end Go.Proofs.YtodldpdnhcafpaaDoor.H

namespace Go.Proofs.YtodldpdnhcafpaaDoor.L
open Go.RowKit Go.Proofs.YtodldpdnhcafpaaDoorW.PrintWords Go.Proofs.YtodldpdnhcafpaaDoorW.PrintLast Go.Proofs.YtodldpdnhcafpaaDoorW.PrintMore
open Go.Proofs.YtodldpdnhcafpaaDoor.F Go.Proofs.YtodldpdnhcafpaaDoor.H
set_option linter.unusedVariables false
set_option linter.unusedSimpArgs false
def sketches_walk.T2 : Bool × List (List Nat × List Nat) := (true, [([], []), ([0], [0]), ([1], [1]), ([], []), ([3], [3]), ([4, 2], [4]), ([2, 5], [2, 5]), ([6, 5], [6]), ([7], [7]), ([7], [7]), ([8, 9, 7, 7], [7, 8, 9]), ([7, 10], [7, 10]), ([11, 10, 0, 1, 2, 3, 4, 5, 6, 7, 8, 9, 10, 11], [11])])
def sketches_walk.B2 : List Nat := [0, 1, 3, 0, 8, 31, 63, 127, 255, 255, 1023, 2047, 4095]
theorem sketches_walk.tab2 : rtab .any (opsOf Tryd.f4 2) = sketches_walk.T2 := by kernel_rfl
theorem sketches_walk.bits2 : waitsOk sketches_walk.T2.2 sketches_walk.B2 = true := by kernel_rfl
set_option maxHeartbeats 4000000 in
set_option maxRecDepth 100000 in
theorem sketches_walk (t : ByteArray) (A1 : Option Addr) (c1 : Nat) (ps : List S68) (A2 : Option Addr) (c2 : Nat) (ns : List S43)  (w : World)
    (hs : t.size ≤ 140737488351232) (hr1 : Kd.C k68 w A1 ps.length ps) (hc1 : ps.length ≤ c1) (hn1 : A1 = none → c1 = 0) (hB1 : ∀ x ∈ ps, B68 x) (hb1 : ps.length * 24 ≤ 140737488351232)
    (hr2 : Kd.C k43 w A2 ns.length ns) (hc2 : ns.length ≤ c2) (hn2 : A2 = none → c2 = 0) (hB2 : ∀ x ∈ ns, B43 x) (hb2 : ns.length * 32 ≤ 140737488351232) (hsg : SG w) :
    Calls Tryd.prog 4 #[.agg #[.string t, .slice A1 ps.length c1, .slice A2 ns.length c2]] w fun e w' => e = .returned (.bool true) ∧ Below w.heap.size w w' := by
  have hu34 := Tryd.underlying34
  have hu24 := Tryd.underlying24
  have hu8 : ∀ x ∈ ns, 0 ≤ x.f0 ∧ x.f0 ≤ 255 := fun x hx => by
    have h := (hB2 x hx).1
    simp [Lit.wf, IntKind.min, IntKind.max, IntKind.bits, IntKind.signed] at h
    omega
  have hnn : ns.length < 4398046511104 := by omega
  obtain ⟨k, hk⟩ := (Q.Sketch_is ns hnn hu8).rounds
  obtain ⟨k', hk'⟩ := (Q.RSketch_is ns hnn hu8).rounds
  obtain ⟨r, hr⟩ : ∃ r, Q.skT ns = r := ⟨_, rfl⟩
  rw [hr] at hk hk'
  clear hr hnn hu8
  have HK := Aside0.mk hk
  have HK' := Aside0.mk hk'
  have HSG := Aside0.mk hsg
  clear hk hk' hsg
  have HR1 := Aside0.mk hr1
  have HR2 := Aside0.mk hr2
  have HC1 := Aside0.mk hc1
  have HC2 := Aside0.mk hc2
  have HN1 := Aside0.mk hn1
  have HN2 := Aside0.mk hn2
  clear hr1 hr2 hc1 hc2 hn1 hn2 hB1 hB2
  go_enter Tryd.func4, Tryd.ntmps4
  go_wp2_with (first
    | ((with_reducible refine gate_dst (N := 1) rfl ?_); refine box_event ?hgg1 (N := 1) ?hdg1 (cs := #[.string t, .slice A1 ps.length c1, .slice A2 ns.length c2]) (t := 34) ?hrg1 ?_; (case hdg1 => rfl); (case hgg1 => rfl); (case hrg1 => first | (go_simp; done) | (go_simp; rfl)); intro g1 hge w1 hbox hb; have BK1 := Aside0.mk hbox; have HB := Aside0.mk hb; clear hbox hge hb; have hx0 : w1.cell? ⟨g1, 0, none⟩ = some (.string t) := (blk_cell BK1.out 0).trans rfl; have hx1 : w1.cell? ⟨g1, 1, none⟩ = some (.slice A1 ps.length c1) := (blk_cell BK1.out 1).trans rfl; have hx2 : w1.cell? ⟨g1, 2, none⟩ = some (.slice A2 ns.length c2) := (blk_cell BK1.out 2).trans rfl))
  refine (lent_calls t A1 c1 ps A2 c2 ns _ (Kd.C_below HR1.out HB.out) HC1.out HN1.out hb1 (Kd.C_below HR2.out HB.out) HC2.out HN2.out hb2).mono ?_
  rintro e w2 ⟨A, B, rfl, hL1, hL2, hb⟩
  have HL1 := Aside0.mk hL1
  have HL2 := Aside0.mk hL2
  have n1_ := Aside0.mk (blk_below BK1.out hb)
  have n2_ := Aside0.mk (below_step HB.out hb)
  clear BK1 HB hx0 hx1 hx2 hL1 hL2 hb
  have BK1 := n1_
  have HB := n2_
  clear n1_ n2_
  go_wp2_with (first
    | ((with_reducible refine gate_dst (N := 3) rfl ?_); refine box_event ?hgg2 (N := 3) ?hdg2 (cs := #[.string ⟨#[]⟩, .slice none 0 0, .slice none 0 0]) (t := 34) ?hrg2 ?_; (case hdg2 => rfl); (case hgg2 => rfl); (case hrg2 => first | (go_simp; done) | (go_simp; rfl)); intro g2 hge w3 hbox hb; have BK2 := Aside0.mk hbox; have GE2 := Aside0.mk (show w.heap.size ≤ g2 by rw [hge]; exact HB.out.size); have NE := Aside0.mk (show g1 ≠ g2 by rw [hge]; exact Nat.ne_of_lt (blk_lt BK1.out)); have GL := Aside0.mk (show w2.heap.size ≤ g2 by rw [hge]; exact Nat.le_refl _); have HB3 := Aside0.mk hb; clear hbox hge hb; have hy0 : w3.cell? ⟨g2, 0, none⟩ = some (.string ⟨#[]⟩) := (blk_cell BK2.out 0).trans rfl; have hy1 : w3.cell? ⟨g2, 1, none⟩ = some (.slice none 0 0) := (blk_cell BK2.out 1).trans rfl; have hy2 : w3.cell? ⟨g2, 2, none⟩ = some (.slice none 0 0) := (blk_cell BK2.out 2).trans rfl; have hz0 := blk_frozen BK2.out 0; have hz1 := blk_frozen BK2.out 1; have hz2 := blk_frozen BK2.out 2))
  have hset : Below w2.heap.size w2 (((w3.setCell ⟨g2, 0, none⟩ (.string t)).setCell ⟨g2, 1, none⟩ (.slice A ps.length (ps.length + 2))).setCell ⟨g2, 2, none⟩ (.slice B ns.length (ns.length + 2))) := by
    refine below_set ?_ GL.out
    refine below_set ?_ GL.out
    refine below_set ?_ GL.out
    exact HB3.out
  have hbk : (((w3.setCell ⟨g2, 0, none⟩ (.string t)).setCell ⟨g2, 1, none⟩ (.slice A ps.length (ps.length + 2))).setCell ⟨g2, 2, none⟩ (.slice B ns.length (ns.length + 2))).heap[g2]? = some (.cells #[.string t, .slice A ps.length (ps.length + 2), .slice B ns.length (ns.length + 2)] 34 (0, 0)) := by
    refine blk_put (cs := #[.string t, .slice A ps.length (ps.length + 2), .slice none 0 0]) ?_ 2 _ rfl
    refine blk_put (cs := #[.string t, .slice none 0 0, .slice none 0 0]) ?_ 1 _ rfl
    refine blk_put (cs := #[.string ⟨#[]⟩, .slice none 0 0, .slice none 0 0]) ?_ 0 _ rfl
    exact BK2.out
  obtain ⟨w4, hw4⟩ : ∃ w4, w4 = (((w3.setCell ⟨g2, 0, none⟩ (.string t)).setCell ⟨g2, 1, none⟩ (.slice A ps.length (ps.length + 2))).setCell ⟨g2, 2, none⟩ (.slice B ns.length (ns.length + 2))) := ⟨_, rfl⟩
  rw [← hw4] at hset hbk ⊢
  have hH : Hold t A1 A2 A B c1 c2 ps ns g1 g2 w w4 := ⟨blk_below BK1.out hset, hbk, Kd.C_below (Kd.C_below HR1.out HB.out) hset, Kd.C_below (Kd.C_below HR2.out HB.out) hset, Kd.C_below HL1.out hset, Kd.C_below HL2.out hset, below_step HB.out hset⟩
  clear hw4 hset hbk hy0 hy1 hy2 hz0 hz1 hz2 BK1 BK2 HB HB3 HL1 HL2 GE2 GL NE w3
  refine start_ (n := 13) (S := fun w' => Hold t A1 A2 A B c1 c2 ps ns g1 g2 w w') (ds := []) #[false, false, false, false, false, false, false, false, false, false, false, false, false] (by kernel_rfl) rfl rfl hH.drew (fun hHeld => ?_)
  refine with_tabW sketches_walk.tab2 sketches_walk.bits2 (fun HT_ HW_ => ?_)
  generalize w4.drew = wa at hHeld ⊢
  refine pure_ (i := 0) (N := some 6) (v := ?_) (a' := ?_) #[true, false, false, false, false, false, false, false, false, false, false, false, false] rfl rfl (any_of HT_.out (by kernel_rfl)) (fun _ _ _ h => h) (Or.inl ⟨by rfl, ?_⟩) ?_ ?_
  rotate_left
  · intro w'
    go_simp
    with_reducible rfl
  rotate_left
  · simp only [Act.put, List.setIfInBounds_toArray, List.set_cons_zero, List.set_cons_succ, i64_w, i32_w]
    rfl
  refine pure_ (i := 3) (N := some 9) (v := ?_) (a' := ?_) #[true, false, false, true, false, false, false, false, false, false, false, false, false] rfl rfl (any_of HT_.out (by kernel_rfl)) (fun _ _ _ h => h) (Or.inl ⟨by rfl, ?_⟩) ?_ ?_
  rotate_left
  · intro w'
    go_simp
    with_reducible rfl
  rotate_left
  · simp only [Act.put, List.setIfInBounds_toArray, List.set_cons_zero, List.set_cons_succ, i64_w, i32_w]
    rfl
  refine take_ (i := 1) (N := some 7) (v := ?_) (a' := ?_) #[true, true, false, true, false, false, false, false, false, false, false, false, false] rfl rfl (take_ofW HT_.out HW_.out (by kernel_rfl)) (fun _ _ _ h => h) (Or.inl ⟨by rfl, ?_⟩) hHeld ?_ ?_
  rotate_left
  · intro w' hS
    have x0 : w'.cell? ⟨g1, 0, none⟩ = some (.string t) := (blk_cell hS.b1 0).trans rfl
    have x1 : w'.cell? ⟨g1, 1, none⟩ = some (.slice A1 ps.length c1) := (blk_cell hS.b1 1).trans rfl
    have x2 : w'.cell? ⟨g1, 2, none⟩ = some (.slice A2 ns.length c2) := (blk_cell hS.b1 2).trans rfl
    have y0 : w'.cell? ⟨g2, 0, none⟩ = some (.string t) := (blk_cell hS.b2 0).trans rfl
    have y1 : w'.cell? ⟨g2, 1, none⟩ = some (.slice A ps.length (ps.length + 2)) := (blk_cell hS.b2 1).trans rfl
    have y2 : w'.cell? ⟨g2, 2, none⟩ = some (.slice B ns.length (ns.length + 2)) := (blk_cell hS.b2 2).trans rfl
    clear hS
    go_simp
    with_reducible rfl
  rotate_left
  · simp only [Act.put, List.setIfInBounds_toArray, List.set_cons_zero, List.set_cons_succ, i64_w, i32_w]
    rfl
  refine take_ (i := 4) (N := some 10) (v := ?_) (a' := ?_) #[true, true, false, true, true, false, false, false, false, false, false, false, false] rfl rfl (take_ofW HT_.out HW_.out (by kernel_rfl)) (fun _ _ _ h => h) (Or.inl ⟨by rfl, ?_⟩) hHeld ?_ ?_
  rotate_left
  · intro w' hS
    have x0 : w'.cell? ⟨g1, 0, none⟩ = some (.string t) := (blk_cell hS.b1 0).trans rfl
    have x1 : w'.cell? ⟨g1, 1, none⟩ = some (.slice A1 ps.length c1) := (blk_cell hS.b1 1).trans rfl
    have x2 : w'.cell? ⟨g1, 2, none⟩ = some (.slice A2 ns.length c2) := (blk_cell hS.b1 2).trans rfl
    have y0 : w'.cell? ⟨g2, 0, none⟩ = some (.string t) := (blk_cell hS.b2 0).trans rfl
    have y1 : w'.cell? ⟨g2, 1, none⟩ = some (.slice A ps.length (ps.length + 2)) := (blk_cell hS.b2 1).trans rfl
    have y2 : w'.cell? ⟨g2, 2, none⟩ = some (.slice B ns.length (ns.length + 2)) := (blk_cell hS.b2 2).trans rfl
    clear hS
    go_simp
    with_reducible rfl
  rotate_left
  · simp only [Act.put, List.setIfInBounds_toArray, List.set_cons_zero, List.set_cons_succ, i64_w, i32_w]
    rfl
  refine one_ (i := 2) (N := some 8) #[true, true, true, true, true, false, false, false, false, false, false, false, false] rfl rfl (one_of HT_.out (by kernel_rfl)) (by decide) (fun K hK => ?_)
  refine goes_ Tryd.func11 (by kernel_rfl) rfl #[.agg #[.slice B ns.length (ns.length + 2)]] (by rfl) rfl rfl (by (try simp only [List.map_toArray, List.map_cons, List.map_nil]); first | done | rfl) ?_
  refine (tree_Sketch.calls k B (ns.length + 2) ns r _ (C_lent43 hHeld.l2) (by omega) HK.out (SG.below HSG.out hHeld.be)).mono ?_
  rintro e w' ⟨rfl, hb⟩
  refine ⟨_, rfl, ?_⟩
  have hH := Hold.below hHeld hb
  clear hHeld hb
  refine hK.out _ _ hH (fun hHeld => ?_)
  clear hH
  clear hK K
  refine norm_ (a' := ?_) ?_ ?_
  rotate_left
  · show Act.put _ (some 8) _ = _
    simp only [Act.put, List.setIfInBounds_toArray, List.set_cons_zero, List.set_cons_succ, i64_w, i32_w]
    rfl
  refine one_ (i := 5) (N := some 11) #[true, true, true, true, true, true, false, false, false, false, false, false, false] rfl rfl (one_of HT_.out (by kernel_rfl)) (by decide) (fun K hK => ?_)
  refine goes_ Tryd.func12 (by kernel_rfl) rfl #[.agg #[.slice A2 ns.length c2]] (by rfl) rfl rfl (by (try simp only [List.map_toArray, List.map_cons, List.map_nil]); first | done | rfl) ?_
  refine (monikerref4_Sketch.calls k' A2 c2 ns r _ hHeld.r2 HC2.out HK'.out (SG.below HSG.out hHeld.be)).mono ?_
  rintro e w' ⟨rfl, hb⟩
  refine ⟨_, rfl, ?_⟩
  have hH := Hold.below hHeld hb
  clear hHeld hb
  refine hK.out _ _ hH (fun hHeld => ?_)
  clear hH
  clear hK K
  refine norm_ (a' := ?_) ?_ ?_
  rotate_left
  · show Act.put _ (some 11) _ = _
    simp only [Act.put, List.setIfInBounds_toArray, List.set_cons_zero, List.set_cons_succ, i64_w, i32_w]
    rfl
  refine pure_ (i := 6) (N := some 12) (v := ?_) (a' := ?_) #[true, true, true, true, true, true, true, false, false, false, false, false, false] rfl rfl (any_of HT_.out (by kernel_rfl)) (fun _ _ _ h => h) (Or.inl ⟨by rfl, ?_⟩) ?_ ?_
  rotate_left
  · intro w'
    go_simp
    with_reducible rfl
  rotate_left
  · simp only [Act.put, List.setIfInBounds_toArray, List.set_cons_zero, List.set_cons_succ, i64_w, i32_w]
    rfl
  refine pure_ (i := 7) (N := some 13) (v := ?_) (a' := ?_) #[true, true, true, true, true, true, true, true, false, false, false, false, false] rfl rfl (any_of HT_.out (by kernel_rfl)) (fun _ _ _ h => h) (Or.inl ⟨by rfl, ?_⟩) ?_ ?_
  rotate_left
  · intro w'
    go_simp
    with_reducible rfl
  rotate_left
  · simp only [Act.put, List.setIfInBounds_toArray, List.set_cons_zero, List.set_cons_succ, i64_w, i32_w]
    rfl
  refine take_ (i := 8) (N := some 14) (v := ?_) (a' := ?_) #[true, true, true, true, true, true, true, true, true, false, false, false, false] rfl rfl (take_ofW HT_.out HW_.out (by kernel_rfl)) (fun _ _ _ h => h) (Or.inl ⟨by rfl, ?_⟩) hHeld ?_ ?_
  rotate_left
  · intro w' hS
    have x0 : w'.cell? ⟨g1, 0, none⟩ = some (.string t) := (blk_cell hS.b1 0).trans rfl
    have x1 : w'.cell? ⟨g1, 1, none⟩ = some (.slice A1 ps.length c1) := (blk_cell hS.b1 1).trans rfl
    have x2 : w'.cell? ⟨g1, 2, none⟩ = some (.slice A2 ns.length c2) := (blk_cell hS.b1 2).trans rfl
    have y0 : w'.cell? ⟨g2, 0, none⟩ = some (.string t) := (blk_cell hS.b2 0).trans rfl
    have y1 : w'.cell? ⟨g2, 1, none⟩ = some (.slice A ps.length (ps.length + 2)) := (blk_cell hS.b2 1).trans rfl
    have y2 : w'.cell? ⟨g2, 2, none⟩ = some (.slice B ns.length (ns.length + 2)) := (blk_cell hS.b2 2).trans rfl
    clear hS
    go_simp
    with_reducible rfl
  rotate_left
  · simp only [Act.put, List.setIfInBounds_toArray, List.set_cons_zero, List.set_cons_succ, i64_w, i32_w]
    rfl
  refine take_ (i := 9) (N := some 15) (v := ?_) (a' := ?_) #[true, true, true, true, true, true, true, true, true, true, false, false, false] rfl rfl (take_ofW HT_.out HW_.out (by kernel_rfl)) (fun _ _ _ h => h) (Or.inl ⟨by rfl, ?_⟩) hHeld ?_ ?_
  rotate_left
  · intro w' hS
    have x0 : w'.cell? ⟨g1, 0, none⟩ = some (.string t) := (blk_cell hS.b1 0).trans rfl
    have x1 : w'.cell? ⟨g1, 1, none⟩ = some (.slice A1 ps.length c1) := (blk_cell hS.b1 1).trans rfl
    have x2 : w'.cell? ⟨g1, 2, none⟩ = some (.slice A2 ns.length c2) := (blk_cell hS.b1 2).trans rfl
    have y0 : w'.cell? ⟨g2, 0, none⟩ = some (.string t) := (blk_cell hS.b2 0).trans rfl
    have y1 : w'.cell? ⟨g2, 1, none⟩ = some (.slice A ps.length (ps.length + 2)) := (blk_cell hS.b2 1).trans rfl
    have y2 : w'.cell? ⟨g2, 2, none⟩ = some (.slice B ns.length (ns.length + 2)) := (blk_cell hS.b2 2).trans rfl
    clear hS
    go_simp
    with_reducible rfl
  rotate_left
  · simp only [Act.put, List.setIfInBounds_toArray, List.set_cons_zero, List.set_cons_succ, i64_w, i32_w]
    rfl
  refine one_ (i := 10) (N := some 16) #[true, true, true, true, true, true, true, true, true, true, true, false, false] rfl rfl (one_of HT_.out (by kernel_rfl)) (by decide) (fun K hK => ?_)
  refine goes_ Tryd.func13 (by kernel_rfl) rfl #[.agg #[.string t, .slice A ps.length (ps.length + 2), .slice B ns.length (ns.length + 2)], .agg #[.string t, .slice A1 ps.length c1, .slice A2 ns.length c2]] (by rfl) rfl rfl (by (try simp only [List.map_toArray, List.map_cons, List.map_nil]); first | done | rfl) ?_
  refine (kept_calls t t A B A1 A2 c1 c2 ps ns _ hHeld.l1 hHeld.l2 hHeld.r1 HC1.out hHeld.r2 HC2.out (by omega) (by omega)).mono ?_
  rintro e w' ⟨rfl, hb⟩
  refine ⟨_, rfl, ?_⟩
  have hH := Hold.below hHeld hb
  clear hHeld hb
  refine hK.out _ _ hH (fun hHeld => ?_)
  clear hH
  clear hK K
  refine norm_ (a' := ?_) ?_ ?_
  rotate_left
  · show Act.put _ (some 16) _ = _
    simp only [Act.put, List.setIfInBounds_toArray, List.set_cons_zero, List.set_cons_succ, i64_w, i32_w]
    rfl
  refine pure_ (i := 11) (N := some 17) (v := ?_) (a' := ?_) #[true, true, true, true, true, true, true, true, true, true, true, true, false] rfl rfl (any_of HT_.out (by kernel_rfl)) (fun _ _ _ h => h) (Or.inl ⟨by rfl, ?_⟩) ?_ ?_
  rotate_left
  · intro w'
    go_simp
    with_reducible rfl
  rotate_left
  · simp only [Act.put, List.setIfInBounds_toArray, List.set_cons_zero, List.set_cons_succ, i64_w, i32_w]
    rfl
  refine pure_ (i := 12) (N := some 2) (v := ?_) (a' := ?_) #[true, true, true, true, true, true, true, true, true, true, true, true, true] rfl rfl (any_of HT_.out (by kernel_rfl)) (fun _ _ _ h => h) (Or.inl ⟨by rfl, ?_⟩) ?_ ?_
  rotate_left
  · intro w'
    go_simp
    with_reducible rfl
  rotate_left
  · simp only [Act.put, List.setIfInBounds_toArray, List.set_cons_zero, List.set_cons_succ, i64_w, i32_w]
    rfl
  refine done_ (done_of HT_.out (by kernel_rfl)) ?_
  go_wp2
  go_ret
  exact ⟨rfl, hHeld.be⟩
end Go.Proofs.YtodldpdnhcafpaaDoor.L

namespace Go.Proofs.YtodldpdnhcafpaaDoor.O
open Go.ChangeShapes Go.WideShapes Go.Deep Go.Proofs.YtodldpdnhcafpaaDoorW.PrintWords Go.Proofs.YtodldpdnhcafpaaDoor
set_option linter.unusedVariables false

section
variable {H : Type} {enc : TypeId × Value → H}
end

/-- As Opens; and the value is no heavier than the reading's bulk. -/
def OpensU {α : Type} (P : Program) (t : TypeId) (d : Kd α) (B : α → Prop) (m : α → Nat) : Prop :=
  ∀ {H : Type} {enc : TypeId × Value → H} {w : World} {base : Nat} {spare : Nat → Bool} {held : Bool} {fuel : Nat} {cs : List Value} {x : DataW H × List MemPlace},
    DataW.trod enc P w base spare held fuel t cs = some x → (∀ n ∈ x.1.weights P t, n ≤ reachBytes) → ∃ a, d.K w a cs ∧ B a ∧ m a ≤ Rows.uptoBulk x.1

theorem opens_stringU {P : Program} {t : TypeId} (hu : P.underlying t = some .string) : OpensU P t Kd.string (fun s => s.size ≤ 140737488351232) (fun s => s.size + 1) := fun h hw => by
  obtain ⟨s, rfl, rfl, _⟩ := DataW.trod_string hu h
  have e : s.data.toList.length = s.size := by rw [Array.length_toList]; rfl
  refine ⟨s, rfl, ?_, by simp only [Rows.uptoBulk]; omega⟩
  have := hw s.data.toList.length (by simp [DataW.weights])
  rw [e] at this
  exact this

theorem bulkAll_snoc {H : Type} : ∀ (l : List (DataW H)) (d : DataW H), Rows.uptoBulkAll (l ++ [d]) = Rows.uptoBulkAll l + Rows.uptoBulk d
  | [], d => by simp [Rows.uptoBulkAll]
  | x :: l, d => by simp only [List.cons_append, Rows.uptoBulkAll, bulkAll_snoc l d]; omega
def sumM {α : Type} (m : α → Nat) : List α → Nat
  | [] => 0
  | a :: l => m a + sumM m l
theorem sumM_snoc {α : Type} (m : α → Nat) : ∀ (l : List α) (a : α), sumM m (l ++ [a]) = sumM m l + m a
  | [], a => by simp [sumM]
  | x :: l, a => by simp only [List.cons_append, sumM, sumM_snoc m l a]; omega

theorem open_rowU {α : Type} {P : Program} {t e : TypeId} {d : Kd α} {B : α → Prop} {M : α → Nat} (hu : P.underlying t = some (.slice e)) (he : OpensU P e d B M) (hc : P.cellsOf e = d.sz)
    {H : Type} {enc : TypeId × Value → H} {w : World} {base : Nat} {spare : Nat → Bool} {held : Bool} {fuel : Nat} {A : Option Addr} {n c : Nat} {x : DataW H × List MemPlace}
    (h : DataW.trod enc P w base spare held fuel t [.slice A n c] = some x) (hw : ∀ n ∈ x.1.weights P t, n ≤ reachBytes) :
    ∃ xs : List α, xs.length = n ∧ d.C w A n xs ∧ n ≤ c ∧ (A = none → c = 0) ∧ (∀ a ∈ xs, B a) ∧ n * P.bytesOf e ≤ 140737488351232 ∧ sumM M xs + 1 ≤ Rows.uptoBulk x.1 := by
  rcases open_slice hu h with ⟨hcs, rfl⟩ | ⟨a, len, cap, m, fu, D, Pl, hcs, hb, hl, hm, hmm, rfl, hel⟩
  · simp only [List.cons.injEq, Value.slice.injEq, and_true] at hcs
    obtain ⟨rfl, rfl, rfl⟩ := hcs
    exact ⟨[], rfl, ⟨rfl, by omega, fun h0 => absurd h0 (by omega)⟩, by omega, fun _ => rfl, (fun a ha => by cases ha), by omega, by simp [sumM, Rows.uptoBulk]⟩
  · simp only [List.cons.injEq, Value.slice.injEq, and_true] at hcs
    obtain ⟨rfl, rfl, rfl⟩ := hcs
    have hlm : n ≤ m := by rw [hmm]; split <;> omega
    have hex : ∀ i, i < n → ∃ v : α, (∃ cs, d.K w v cs ∧ ∀ j u, cs[j]? = some u → w.cell? (a.add (i * d.sz + j)) = some u) ∧ B v ∧ M v ≤ Rows.uptoBulk (D i) := by
      intro i hi
      obtain ⟨cs', hc1, hc2⟩ := hel i (by omega)
      have hmem : D i ∈ (List.range n).map D := List.mem_map.2 ⟨i, List.mem_range.2 hi, rfl⟩
      obtain ⟨v, hv, hB, hM⟩ := he hc2 (fun q hq => hw q (by
        simp only [DataW.weights, hu, List.mem_cons, List.mem_append]
        exact .inr (.inl (mem_weightsAll hmem q hq))))
      refine ⟨v, ⟨cs', hv, fun j u hj => ?_⟩, hB, hM⟩
      obtain ⟨_, hcl, hat⟩ := World.cells?_some hc1
      have hjl : j < cs'.length := (List.getElem?_eq_some_iff.1 hj).1
      have := hat j (by omega)
      rw [hc] at this
      rw [← Go.Deep.add_add, this, hj]
    have key : ∀ k, k ≤ n → ∃ xs : List α, xs.length = k ∧ (∀ j p, xs[j]? = some p → (∃ cs, cs.length = d.sz ∧ d.K w p cs ∧ ∀ i u, cs[i]? = some u → w.cell? (a.add (j * d.sz + i)) = some u) ∧ B p) ∧ sumM M xs ≤ Rows.uptoBulkAll ((List.range k).map D) := by
      intro k
      induction k with
      | zero => intro _; exact ⟨[], rfl, fun j p hj => by simp at hj, by simp [sumM]⟩
      | succ k ih =>
        intro hk
        obtain ⟨xs, hx, hxs, hsum⟩ := ih (by omega)
        obtain ⟨v, ⟨cs, hv, hcell⟩, hB, hM⟩ := hex k (by omega)
        refine ⟨xs ++ [v], by simp [hx], fun j p hj => ?_, ?_⟩
        · rcases Nat.lt_or_ge j k with hjk | hjk
          · rw [List.getElem?_append_left (by omega)] at hj
            exact hxs j p hj
          · have hjl := (List.getElem?_eq_some_iff.1 hj).1
            rw [List.length_append, List.length_singleton] at hjl
            obtain rfl : j = k := by omega
            have hp : v = p := by simpa [List.getElem?_append_right, hx] using hj
            subst hp
            exact ⟨⟨cs, d.K_len hv, hv, hcell⟩, hB⟩
        · rw [sumM_snoc, List.range_succ, List.map_append, List.map_cons, List.map_nil, bulkAll_snoc]
          omega
    obtain ⟨xs, hx, hxs, hsum⟩ := key n (Nat.le_refl _)
    refine ⟨xs, hx, ⟨hx, by have : maxLen = 9223372036854775807 := rfl; omega, fun _ => ⟨a, rfl, fun j p hj => (hxs j p hj).1⟩⟩, hl, (fun h => by cases h), fun v hv => ?_, ?_, ?_⟩
    · obtain ⟨j, hj, rfl⟩ := List.mem_iff_getElem.1 hv
      exact (hxs j _ (List.getElem?_eq_getElem hj)).2
    · have := hw ((((List.range n).map D).length + ((List.range (m - n)).map fun j => D (n + j)).length) * P.bytesOf e) (by
        simp only [DataW.weights, hu]
        exact List.mem_cons_self)
      simp only [List.length_map, List.length_range] at this
      have h2 : n * P.bytesOf e ≤ (n + (m - n)) * P.bytesOf e := Nat.mul_le_mul_right _ (by omega)
      have h3 : reachBytes = 140737488351232 := rfl
      omega
    · simp only [Rows.uptoBulk]
      omega
end Go.Proofs.YtodldpdnhcafpaaDoor.O

namespace Go.Proofs.YtodldpdnhcafpaaDoor.H
set_option maxRecDepth 100000
open Go.ChangeShapes Go.WideShapes Go.Deep Go.Proofs.YtodldpdnhcafpaaDoorW.PrintWords Go.Proofs.YtodldpdnhcafpaaDoor.F Go.Proofs.YtodldpdnhcafpaaDoor
theorem sumM_one {α : Type} : ∀ l : List α, O.sumM (fun _ => 1) l = l.length
  | [] => rfl
  | a :: l => by simp only [O.sumM, sumM_one l, List.length_cons]; omega
theorem opens68U : O.OpensU Tryd.prog 68 k68 B68 (fun _ => 1) := by
  intro H enc w base spare held fuel cs x h hw
  obtain ⟨a, ha, hb⟩ := opens68 h hw
  refine ⟨a, ha, hb, ?_⟩
  obtain ⟨ys, n, _, rfl, _⟩ := DataW.trod_struct Tryd.underlying68 h
  simp only [Rows.uptoBulk]
  omega
/-- A Forest that came in; and what the reading weighs at least. -/
theorem open34U {H : Type} {enc : TypeId × Value → H} {W : World} {base b0 : Nat} {r : Reach} {spare : Nat → Bool} {held : Bool} {v : Value} {d : DataW H} {p : List MemPlace} (hv : Value.okWide Tryd.prog W r b0 34 v) (h : DataW.Trod enc Tryd.prog W base spare held 34 v d p) (hw : ∀ n ∈ d.weights Tryd.prog 34, n ≤ reachBytes) :
    ∃ (t : ByteArray) (A1 : Option Addr) (c1 : Nat) (ps : List S68) (A2 : Option Addr) (c2 : Nat) (ns : List S43), v = .agg #[.string t, .slice A1 ps.length c1, .slice A2 ns.length c2] ∧ t.size ≤ 140737488351232 ∧
      Kd.C k68 W A1 ps.length ps ∧ ps.length ≤ c1 ∧ (A1 = none → c1 = 0) ∧ (∀ x ∈ ps, B68 x) ∧ ps.length * 24 ≤ 140737488351232 ∧ Kd.C k43 W A2 ns.length ns ∧ ns.length ≤ c2 ∧ (A2 = none → c2 = 0) ∧ (∀ x ∈ ns, B43 x) ∧ ns.length * 32 ≤ 140737488351232 ∧ t.size + ps.length ≤ Rows.uptoBulk d := by
  obtain ⟨cs, rfl, hsz⟩ := okWide_struct Tryd.underlying34 hv
  rw [cells34] at hsz
  obtain ⟨l⟩ := cs
  obtain ⟨c0, c1, c2, rfl⟩ : ∃ a b c, l = [a, b, c] := by
    match l, hsz with
    | [a, b, c], _ => exact ⟨a, b, c, rfl⟩
  obtain ⟨fuel, hf⟩ := h
  obtain ⟨ys, n, _, hd, _, hyl, hg⟩ := DataW.trod_struct Tryd.underlying34 hf
  obtain ⟨y0, y1, y2, rfl⟩ : ∃ a b c, ys = [a, b, c] := by
    match ys, hyl with
    | [a, b, c], _ => exact ⟨a, b, c, rfl⟩
  obtain ⟨rfl, rfl⟩ := Prod.mk.inj hd
  have f0 := hg 0 { name := "Text", type := 9, offset := 0, embedded := false, tag := "", pkgPath := "", byteOffset := 0 } rfl
  have f1 := hg 1 { name := "Pieces", type := 32, offset := 1, embedded := false, tag := "", pkgPath := "", byteOffset := 16 } rfl
  have f2 := hg 2 { name := "Tree", type := 24, offset := 2, embedded := false, tag := "", pkgPath := "", byteOffset := 40 } rfl
  simp only [Value.cells, cells9, cells32, cells24, List.drop_zero, List.drop_succ_cons, List.take_succ_cons, List.take_zero, List.getElem?_cons_zero, List.getElem?_cons_succ] at f0 f1 f2
  have hq : ∀ (j : Nat) (t : TypeId) (d : DataW H), [9, 32, 24][j]? = some t → [y0.1, y1.1, y2.1][j]? = some d → ∀ n ∈ d.weights Tryd.prog t, n ≤ reachBytes := by
    intro j t d h1 h2 q hq
    refine hw q ?_
    simp only [DataW.weights, Tryd.underlying34]
    exact DataW.weights_mem_each (j := j) h1 h2 q hq
  obtain ⟨t, e0, ht, mt⟩ := O.opens_stringU Tryd.underlying9 f0 (hq 0 _ _ rfl rfl)
  obtain rfl : c0 = .string t := (List.cons.inj e0).1
  obtain ⟨A1, n1, k1, e1⟩ := slice_cells Tryd.underlying32 f1
  obtain rfl : c1 = .slice A1 n1 k1 := (List.cons.inj e1).1
  obtain ⟨ps, rfl, p1, p2, p3, p4, p5, mp⟩ := O.open_rowU Tryd.underlying32 opens68U cells68 f1 (hq 1 _ _ rfl rfl)
  obtain ⟨zs, n', _, hz, _, hzl, hg2⟩ := DataW.trod_struct Tryd.underlying24 f2
  obtain ⟨z0, rfl⟩ : ∃ a, zs = [a] := by
    match zs, hzl with
    | [a], _ => exact ⟨a, rfl⟩
  have f3 := hg2 0 { name := "Nodes", type := 22, offset := 0, embedded := false, tag := "", pkgPath := "", byteOffset := 0 } rfl
  simp only [cells22, List.drop_zero, List.take_succ_cons, List.take_zero, List.getElem?_cons_zero] at f3
  obtain ⟨A2, n2, k2, e2⟩ := slice_cells Tryd.underlying22 f3
  obtain rfl : c2 = .slice A2 n2 k2 := (List.cons.inj e2).1
  have hq3 : ∀ n ∈ z0.1.weights Tryd.prog 22, n ≤ reachBytes := by
    intro q hq1
    refine hq 2 _ _ rfl rfl q ?_
    rw [hz]
    simp only [List.map_cons, List.map_nil, DataW.weights, Tryd.underlying24]
    exact DataW.weights_mem_each (j := 0) (ts := [22]) (ds := [z0.1]) rfl rfl q hq1
  obtain ⟨ns, rfl, q1, q2, q3, q4, q5⟩ := O.open_row Tryd.underlying22 opens43 cells43 f3 hq3
  have hbk : t.size + ps.length ≤ Rows.uptoBulk (DataW.agg [y0.1, y1.1, y2.1]) := by
    rw [sumM_one] at mp
    simp only [Rows.uptoBulk, Rows.uptoBulkAll]
    simp only at mt mp
    generalize Rows.uptoBulk y0.1 = z0 at mt ⊢
    generalize Rows.uptoBulk y1.1 = z1 at mp ⊢
    generalize Rows.uptoBulk y2.1 = z2
    omega
  rw [bytes68] at p5
  rw [bytes43] at q5
  exact ⟨t, A1, k1, ps, A2, k2, ns, rfl, ht, p1, p2, p3, p4, p5, q1, q2, q3, q4, q5, hbk⟩
end Go.Proofs.YtodldpdnhcafpaaDoor.H


namespace Go.Proofs.YtodldpdnhcafpaaDoor.treeSketches
open Go.ChangeShapes Go.WideShapes Go.ChangeAt Go.RowKit Go.Proofs.YtodldpdnhcafpaaDoor
open Go.ChangeMaps (open_string shut_string)
set_option linter.unusedVariables false
theorem own : ownKnob Tryd.prog.godebug = none := by kernel_rfl
theorem laidOut : laidOutB Tryd.prog = true := by kernel_rfl
theorem door_met (os : Os) : laidMetH Tryd.prog [("moniker/monikerref4.names", Rows.laid_moniker_monikerref4_names), ("moniker/tree.kinds", Rows.laid_moniker_tree_kinds)] ((World.doorLaid Tryd.prog 20 os).forCall (fun _ _ => 0) ⟨#[], #[.agg #[.string ByteArray.empty, .slice none 0 0, .slice none 0 0]], []⟩).memory :=
  laidMetH_of_parts3 (fuel := 8) (laidMet_of_run' 8 (by kernel_rfl) (by kernel_rfl)) (by kernel_rfl) (by kernel_rfl)
set_option maxRecDepth 100000 in
theorem reads (os : Os) {H : Type} (enc : TypeId × Value → H) : (match DataW.whole enc Tryd.prog ((World.doorLaid Tryd.prog 20 os).forCall (fun _ _ => 0) ⟨#[], #[.agg #[.string ByteArray.empty, .slice none 0 0, .slice none 0 0]], []⟩).memory Tryd.f4.params.toList Rows.treeSketchesSpec.vars false #[.agg #[.string ByteArray.empty, .slice none 0 0, .slice none 0 0]].toList 8 with | some x => true | none => false) = true ∧ (OpenSpec.ofChange Rows.treeSketchesSpec).bare.sizedB enc Tryd.prog Tryd.f4 false ((World.doorLaid Tryd.prog 20 os).forCall (fun _ _ => 0) ⟨#[], #[.agg #[.string ByteArray.empty, .slice none 0 0, .slice none 0 0]], []⟩).memory #[.agg #[.string ByteArray.empty, .slice none 0 0, .slice none 0 0]] 8 = true :=
  ⟨by kernel_rfl, by kernel_rfl⟩
set_option maxRecDepth 100000 in
theorem lifted (os : Os) (started : os.Started) (H : Type) (enc : TypeId × Value → H) (F : Stop.Interp) :
    ReturnsInHanded {} Tryd.checked os 4 .any ((OpenSpec.ofChange Rows.treeSketchesSpec).preRow enc Tryd.prog Tryd.f4 Rows.treeSketchesRow.domain false Rows.treeSketchesRow.laid) (((OpenSpec.ofChange Rows.treeSketchesSpec).at F).post enc Tryd.prog Tryd.f4 false true false false) := by
  obtain ⟨hm, hxs⟩ := reads os enc
  obtain ⟨x, hx, hxk⟩ : ∃ x, DataW.whole enc Tryd.prog ((World.doorLaid Tryd.prog 20 os).forCall (fun _ _ => 0) ⟨#[], #[.agg #[.string ByteArray.empty, .slice none 0 0, .slice none 0 0]], []⟩).memory Tryd.f4.params.toList Rows.treeSketchesSpec.vars false #[.agg #[.string ByteArray.empty, .slice none 0 0, .slice none 0 0]].toList 8 = some x ∧ true = true := by
    generalize DataW.whole enc Tryd.prog ((World.doorLaid Tryd.prog 20 os).forCall (fun _ _ => 0) ⟨#[], #[.agg #[.string ByteArray.empty, .slice none 0 0, .slice none 0 0]], []⟩).memory Tryd.f4.params.toList Rows.treeSketchesSpec.vars false #[.agg #[.string ByteArray.empty, .slice none 0 0, .slice none 0 0]].toList 8 = y at hm
    cases y with
    | none => cases hm
    | some x => exact ⟨x, rfl, hm⟩
  refine returnsInHanded_of_row (C := Tryd.checked) (s := OpenSpec.ofChange Rows.treeSketchesSpec) own started (by kernel_rfl) Tryd.func4
    (witness_row_at (enc := enc) (C := Tryd.checked) false (World.doorLaid Tryd.prog 20 os) #[.agg #[.string ByteArray.empty, .slice none 0 0, .slice none 0 0]] rfl (by kernel_rfl) (by kernel_rfl) (by kernel_rfl)
      (OpenSpec.preRow_of_cond 8 hx (by rfl) (fun k hk => by cases hk) hxs (door_met os))) ?_
  intro W base args ds gs before hval0 hW hcnd _ hsz0 hLaid _ _
  have hsz : (DataW.weightsEach Tryd.prog (Tryd.f4.params.toList ++ Rows.treeSketchesSpec.plain.varTypes Tryd.prog) (ds ++ gs)).all (· ≤ reachBytes) = true := hsz0
  have hval : ∀ (j : Nat) t v, Tryd.f4.params[j]? = some t → args[j]? = some v → Value.okWide Tryd.prog W .any base t v := hval0
  have hW' := hW
  obtain ⟨p, q, hA0, hV, rfl, hfz, hnd⟩ := hW
  have hA : DataW.TrodAll enc Tryd.prog W 0 (fun _ => true) true Tryd.f4.params.toList args.toList ds p := hA0
  rw [Tryd.params4] at hA hval hsz
  obtain ⟨v0, vs0, d0, ds0, p0, q0, hargs, rfl, rfl, h0, r0⟩ := trodAll_cons hA
  obtain ⟨rfl, rfl, rfl⟩ := trodAll_nil r0
  obtain rfl : args = #[v0] := by cases args; simp_all
  obtain ⟨rfl, rfl⟩ := trodVars_none hV
  have k0 := h0
  have lt0 : ∀ x ∈ p0, x.block < W.heap.size := by obtain ⟨m, hm⟩ := k0; exact DataW.trod_lt m _ _ _ hm
  have hq0 : ∀ n ∈ DataW.weights Tryd.prog 34 d0, n ≤ reachBytes := fun n hn => of_decide_eq_true (List.all_eq_true.1 hsz n (DataW.weights_mem_each (j := 0) rfl rfl n hn))
  obtain ⟨t0, A0, c0, l0, B0, e0, m0, rfl, hf0_0, hf0_1, hf0_2, hf0_3, hf0_4, hf0_5, hf0_6, hf0_7, hf0_8, hf0_9, hf0_10, hm0⟩ := Go.Proofs.YtodldpdnhcafpaaDoor.H.open34U (hval 0 34 v0 rfl rfl) h0 hq0
  clear hA0 hval0 hsz0 hsz
  refine (Go.Proofs.YtodldpdnhcafpaaDoor.L.sketches_walk t0 A0 c0 l0 B0 e0 m0 W hf0_0 hf0_1 hf0_2 hf0_3 hf0_4 hf0_5 hf0_6 hf0_7 hf0_8 hf0_9 hf0_10 (Go.Proofs.YtodldpdnhcafpaaDoor.H.sg_of_laid hLaid)).mono fun e W' ⟨he, bel⟩ => ?_
  subst he
  exact ⟨_, rfl, _, _, _, [], _, [], hW', trodAll_mk1 (shut_bool Tryd.underlying4 _), (trodAll_cons_mk (Below.trod laidOut (by kernel_rfl) (of_decide_eq_true (by kernel_rfl)) k0 bel lt0) trodAll_mk0), rfl, bel.frame _, fun h => by cases h⟩
theorem over : Rows.treeSketchesRow.holds Tryd.pinned (OpenSpec.ofChange Rows.treeSketchesSpec) :=
  OpenClaim.holds_of_cond 4 Tryd.f4 rfl rfl rfl rfl rfl rfl rfl ⟨rfl, rfl, rfl, rfl, rfl⟩ rfl rfl rfl rfl rfl (by kernel_rfl) Tryd.func4 (by kernel_rfl)
    (of_decide_eq_true (by kernel_rfl)) (by unfold Func.isWrapper; first | (rw [if_pos (by decide +kernel)]; kernel_rfl) | (rw [if_neg (by decide +kernel)]; exact ⟨rfl, rfl⟩))
    (fun os started H enc _ F => by rw [OpenClaim.pre_eq_preRow]; exact lifted os started H enc F)
theorem plain (f : FuncId) (fn : Func) (hf : Tryd.pinned.checked.prog.funcNamed "moniker/monikerlaw4.TreeSketches" = some f) (hfn : Tryd.pinned.checked.prog.funcs[f]? = some fn) :
    false = Tryd.pinned.checked.prog.looks [] ∧ ∀ (j : Nat) t, fn.params[j]? = some t → Tryd.pinned.checked.prog.wantsStandIn t = false := by
  obtain rfl : f = 4 := Option.some.inj ((show Tryd.prog.funcNamed "moniker/monikerlaw4.TreeSketches" = some 4 by kernel_rfl).symm.trans hf) |>.symm
  obtain rfl : fn = Tryd.f4 := (Option.some.inj (Tryd.func4.symm.trans hfn)).symm
  refine ⟨by kernel_rfl, fun j t ht => ?_⟩
  rw [Tryd.params4] at ht
  have hm : t ∈ [34] := by simpa using Array.mem_of_getElem? ht
  have hall : ([34].all fun u => !Tryd.prog.wantsStandIn u) = true := by kernel_rfl
  exact (show Tryd.prog.wantsStandIn t = false by simpa using List.all_eq_true.1 hall t hm)
set_option maxRecDepth 100000 in
theorem proved : Rows.TreeSketchesCardSaid :=
  Claim7.holds_tied_plain_at .later [] _ _ _ _ over (fun _ h => by cases h) (by kernel_rfl) (fun _ h => by cases h) treeSketches_row_tie rfl ⟨rfl, rfl⟩ (by kernel_rfl) rfl plain (by kernel_rfl)
#print axioms proved
end Go.Proofs.YtodldpdnhcafpaaDoor.treeSketches
namespace Go.Proofs.YtodldpdnhcafpaaDoor
/-- The card, under a short name, for the claim. -/
theorem treeSketches_holds : Rows.TreeSketchesCardSaid := treeSketches.proved
end Go.Proofs.YtodldpdnhcafpaaDoor
