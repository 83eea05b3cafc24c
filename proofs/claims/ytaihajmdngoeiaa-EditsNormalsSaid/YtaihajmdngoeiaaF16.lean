-- A text of this session's own program (wip/myprint.sh over a changed print tool): functions and their walks
import Derived.Test.YtaihajmdngoeiaaF0
import Derived.Test.YtaihajmdngoeiaaF13
import Derived.Test.YtaihajmdngoeiaaF15
namespace Go.Proofs.Ytaihajmdngoeiaa.F
open Go.RowKit Go.Proofs.YtaihajmdngoeiaaW.PrintWords Go.Proofs.YtaihajmdngoeiaaW.PrintLast Go.Proofs.YtaihajmdngoeiaaW.PrintMore
attribute [local go_sem] max2_int min2_int max_two min_two max_three min_three max_four min_four   -- for this text's walks alone
set_option linter.unusedVariables false
set_option linter.unusedSimpArgs false

/-! ### monikerref1_kept: function 46 -/
mutual
def monikerref1_kept.l0 : Nat → List (S61) → Int → Int → Int → List (S61) → Int → Option ((List (S61)))
  | 0, _, _, _, _, _, _ => none
  | k + 1, x0, x1, x2, x3, x9, x10 => if x10 < (x0.length : Int) then (monikerref1_kept.j1 k x0 x1 x2 x3 x9 x10 (decide (x1 ≤ x3))) else (monikerref1_kept.j1 k x0 x1 x2 x3 x9 x10 false)
def monikerref1_kept.j1 : Nat → List (S61) → Int → Int → Int → List (S61) → Int → Bool → Option ((List (S61)))
  | 0, _, _, _, _, _, _, _ => none
  | k + 1, x0, x1, x2, x3, x9, x10, x22 => if x22 = true then (if 0 ≤ x10 then (if x10 < (x0.length : Int) then ((monikerref1_Run_size.f ((rd_T61 x0 x10).f0) ((rd_T61 x0 x10).f1) ((rd_T61 x0 x10).f2) ((rd_T61 x0 x10).f3)).bind fun t163 => (if t163 = 0 then (if x1 ≥ x2 then (monikerref1_kept.j2 k x0 x1 x2 x3 x9 x10 t163 (decide (x1 ≤ x3))) else (monikerref1_kept.j2 k x0 x1 x2 x3 x9 x10 t163 false)) else (monikerref1_kept.j2 k x0 x1 x2 x3 x9 x10 t163 false))) else (none)) else (none)) else (some x9)
def monikerref1_kept.j2 : Nat → List (S61) → Int → Int → Int → List (S61) → Int → Int → Bool → Option ((List (S61)))
  | 0, _, _, _, _, _, _, _, _ => none
  | k + 1, x0, x1, x2, x3, x9, x10, x11, x41 => if x41 = true then (if 0 ≤ x10 then (if x10 < (x0.length : Int) then (if x9.length < 3518437208883 then ((some (x9 ++ [(⟨(rd_T61 x0 x10).f0, (rd_T61 x0 x10).f1, (rd_T61 x0 x10).f2, (rd_T61 x0 x10).f3⟩ : S61)] : List (S61))).bind fun y165 => (if (mx (wrap64 (x2 - x1)) 0) < (mn (wrap64 (x3 - x1)) x11) then ((monikerref1_Run_part.f ((rd_T61 x0 x10).f0) ((rd_T61 x0 x10).f1) ((rd_T61 x0 x10).f2) ((rd_T61 x0 x10).f3) (mx (wrap64 (x2 - x1)) 0) (mn (wrap64 (x3 - x1)) x11)).bind fun bt169 => (if y165.length < 3518437208883 then (monikerref1_kept.l0 k x0 (wrap64 (x1 + x11)) x2 x3 (y165 ++ [(⟨bt169.1, bt169.2.1, bt169.2.2.1, bt169.2.2.2⟩ : S61)]) (wrap64 (x10 + 1))) else (none))) else (monikerref1_kept.l0 k x0 (wrap64 (x1 + x11)) x2 x3 y165 (wrap64 (x10 + 1))))) else (none)) else (none)) else (none)) else (if (mx (wrap64 (x2 - x1)) 0) < (mn (wrap64 (x3 - x1)) x11) then (if 0 ≤ x10 then (if x10 < (x0.length : Int) then ((monikerref1_Run_part.f ((rd_T61 x0 x10).f0) ((rd_T61 x0 x10).f1) ((rd_T61 x0 x10).f2) ((rd_T61 x0 x10).f3) (mx (wrap64 (x2 - x1)) 0) (mn (wrap64 (x3 - x1)) x11)).bind fun bt177 => (if x9.length < 3518437208883 then (monikerref1_kept.l0 k x0 (wrap64 (x1 + x11)) x2 x3 (x9 ++ [(⟨bt177.1, bt177.2.1, bt177.2.2.1, bt177.2.2.2⟩ : S61)]) (wrap64 (x10 + 1))) else (none))) else (none)) else (none)) else (monikerref1_kept.l0 k x0 (wrap64 (x1 + x11)) x2 x3 x9 (wrap64 (x10 + 1))))
end
def monikerref1_kept.f (k : Nat) (l0 : List (S61)) (a1 : Int) (a2 : Int) (a3 : Int) : Option ((List (S61))) := monikerref1_kept.l0 k l0 a1 a2 a3 ([] : List (S61)) 0
theorem monikerref1_kept.mono_l : ∀ k, (∀ y0 y1 y2 y3 y4 y5, LeO (monikerref1_kept.l0 k y0 y1 y2 y3 y4 y5) (monikerref1_kept.l0 (k + 1) y0 y1 y2 y3 y4 y5)) ∧ (∀ y0 y1 y2 y3 y4 y5 y6, LeO (monikerref1_kept.j1 k y0 y1 y2 y3 y4 y5 y6) (monikerref1_kept.j1 (k + 1) y0 y1 y2 y3 y4 y5 y6)) ∧ (∀ y0 y1 y2 y3 y4 y5 y6 y7, LeO (monikerref1_kept.j2 k y0 y1 y2 y3 y4 y5 y6 y7) (monikerref1_kept.j2 (k + 1) y0 y1 y2 y3 y4 y5 y6 y7))
  | 0 => ⟨fun _ _ _ _ _ _ r h => by simp [monikerref1_kept.l0] at h, fun _ _ _ _ _ _ _ r h => by simp [monikerref1_kept.j1] at h, fun _ _ _ _ _ _ _ _ r h => by simp [monikerref1_kept.j2] at h⟩
  | k + 1 => by
    obtain ⟨ih0, ih1, ih2⟩ := monikerref1_kept.mono_l k
    refine ⟨?_, ?_, ?_⟩
    · intro y0 y1 y2 y3 y4 y5
      unfold monikerref1_kept.l0
      repeat' first
      | (with_reducible exact ih0 _ _ _ _ _ _)
      | (with_reducible exact ih1 _ _ _ _ _ _ _)
      | (with_reducible exact ih2 _ _ _ _ _ _ _ _)
      | (with_reducible exact LeO.refl _)
      | (with_reducible exact LeO.none _)
      | (with_reducible refine LeO.ite ?_ ?_)
      | (with_reducible refine LeO.bind ?_ (fun _ => ?_))
      | exact ih0 _ _ _ _ _ _
      | exact ih1 _ _ _ _ _ _ _
      | exact ih2 _ _ _ _ _ _ _ _
      | exact LeO.none _
      | refine LeO.ite ?_ ?_
      | refine LeO.bind ?_ (fun _ => ?_)
    · intro y0 y1 y2 y3 y4 y5 y6
      unfold monikerref1_kept.j1
      repeat' first
      | (with_reducible exact ih0 _ _ _ _ _ _)
      | (with_reducible exact ih1 _ _ _ _ _ _ _)
      | (with_reducible exact ih2 _ _ _ _ _ _ _ _)
      | (with_reducible exact LeO.refl _)
      | (with_reducible exact LeO.none _)
      | (with_reducible refine LeO.ite ?_ ?_)
      | (with_reducible refine LeO.bind ?_ (fun _ => ?_))
      | exact ih0 _ _ _ _ _ _
      | exact ih1 _ _ _ _ _ _ _
      | exact ih2 _ _ _ _ _ _ _ _
      | exact LeO.none _
      | refine LeO.ite ?_ ?_
      | refine LeO.bind ?_ (fun _ => ?_)
    · intro y0 y1 y2 y3 y4 y5 y6 y7
      unfold monikerref1_kept.j2
      repeat' first
      | (with_reducible exact ih0 _ _ _ _ _ _)
      | (with_reducible exact ih1 _ _ _ _ _ _ _)
      | (with_reducible exact ih2 _ _ _ _ _ _ _ _)
      | (with_reducible exact LeO.refl _)
      | (with_reducible exact LeO.none _)
      | (with_reducible refine LeO.ite ?_ ?_)
      | (with_reducible refine LeO.bind ?_ (fun _ => ?_))
      | exact ih0 _ _ _ _ _ _
      | exact ih1 _ _ _ _ _ _ _
      | exact ih2 _ _ _ _ _ _ _ _
      | exact LeO.none _
      | refine LeO.ite ?_ ?_
      | refine LeO.bind ?_ (fun _ => ?_)
theorem monikerref1_kept.mono : ∀ a0 a1 a2 a3 k, LeO (monikerref1_kept.f k a0 a1 a2 a3) (monikerref1_kept.f (k + 1) a0 a1 a2 a3) := by
  intro a0 a1 a2 a3 k
  obtain ⟨ih0, ih1, ih2⟩ := monikerref1_kept.mono_l k
  unfold monikerref1_kept.f
  repeat' first
      | (with_reducible exact ih0 _ _ _ _ _ _)
      | (with_reducible exact ih1 _ _ _ _ _ _ _)
      | (with_reducible exact ih2 _ _ _ _ _ _ _ _)
      | (with_reducible exact LeO.refl _)
      | (with_reducible exact LeO.none _)
      | (with_reducible refine LeO.ite ?_ ?_)
      | (with_reducible refine LeO.bind ?_ (fun _ => ?_))
      | exact ih0 _ _ _ _ _ _
      | exact ih1 _ _ _ _ _ _ _
      | exact ih2 _ _ _ _ _ _ _ _
      | exact LeO.none _
      | refine LeO.ite ?_ ?_
      | refine LeO.bind ?_ (fun _ => ?_)
set_option maxHeartbeats 8000000 in
set_option maxRecDepth 100000 in
theorem monikerref1_kept.calls (k : Nat) (A0 : Option Addr) (c0 : Nat) (l0 : List (S61)) (a1 : Int) (a2 : Int) (a3 : Int) (r : List (S61)) (w : World) (hr0 : Kd.C k61 w A0 l0.length l0) (hc0 : l0.length ≤ c0) (h : monikerref1_kept.f k l0 a1 a2 a3 = some r) :
    Calls Try.prog 46 #[.slice A0 l0.length c0, .int .i64 a1, .int .i64 a2, .int .i64 a3] w fun e w' => ∃ v0_ : Value, e = .returned (v0_) ∧ Kd.R k61 61 w' w.heap.size (fun _ => True) v0_ r ∧ Below w.heap.size w w' := by
  have hu61 := Try.underlying61
  have HR0 := Aside0.mk hr0
  have HC0 := Aside0.mk hc0
  clear hr0 hc0
  have HB := Aside0.mk (Below.refl w.heap.size w)
  have H : (monikerref1_kept.l0 k l0 a1 a2 a3 ([] : List (S61)) 0) = some r := h
  clear h
  have H' := Aside0.mk H
  clear H
  go_enter Try.func46, Try.ntmps46
  go_wp2
  go_loopg [1, 9, 10] k (fun kq v1 v9 v10 w' => ∃ (x1_1 : Int) (x9_1 : List (S61)) (x10_1 : Int), v1 = .int .i64 x1_1 ∧ v10 = .int .i64 x10_1 ∧ Aside0 (monikerref1_kept.l0 kq l0 x1_1 a2 a3 x9_1 x10_1 = some r) ∧ Aside0 (kq ≤ k) ∧ Aside0 (Kd.R k61 61 w' w.heap.size (fun _ => True) v9 x9_1) ∧ Aside0 (Below w.heap.size w w'))
  case atStart => exact ⟨(a1), (([] : List (S61))), (0), (by first | rfl | (simp; done) | (simp [*]; done)), (by first | rfl | (simp; done) | (simp [*]; done)), H', ⟨Nat.le_refl _⟩, ⟨by first | exact Kd.R_nil _ _ _ _ _ | exact Kd.N_nil _ _ _ _ _ | exact Kd.V_nil _ _ _ _ _ | exact Kd.Q_nil _ _ _ _ _ | exact Kd.S_nil _ _ _ _ _⟩, ⟨by repeat (first | (with_reducible first | exact HB.out | apply below_alloc | apply pw_below_drewN | apply below_drew1) | exact HB.out)⟩⟩
  case round =>
    clear H'
    try clear p2
    try clear c4
    obtain ⟨x1_1, x9_1, x10_1, rfl, rfl, HA, HK1, HO_9, HB⟩ := hrel
    cases gk with
    | zero => exact absurd HA.out (by simp [monikerref1_kept.l0])
    | succ k1 =>
      have H := HA.out
      clear HA
      simp only [monikerref1_kept.l0] at H
      have HC5 := Aside0.mk H
      clear H
      go_upto_region 3 with (fail)
      go_cut [22] (fun v22 wc => ∃ (kq : Nat) (x22_4 : Bool), v22 = .bool x22_4 ∧ Aside0 (monikerref1_kept.j1 kq l0 x1_1 a2 a3 x9_1 x10_1 x22_4 = some r) ∧ Aside0 (kq ≤ k1) ∧ Aside0 (Kd.R k61 61 wc w.heap.size (fun _ => True) u9 x9_1) ∧ Aside0 (Below w.heap.size w wc))
      case first =>
        have H := HC5.out
        clear HC5
        by_cases c6 : x10_1 < (l0.length : Int)
        · rw [if_pos c6] at H
          have c6b0 : decide (x10_1 < (l0.length : Int)) = true := decide_eq_true c6
          clear c6
          (first | rw [c6b0] | (simp only [i64_w, i32_w]; rw [c6b0]) | skip)
          have H' := Aside0.mk H
          clear H
          go_wp2
          go_meet
          case rel => exact ⟨_, (decide (x1_1 ≤ a3)), (by first | rfl | (simp; done) | (simp [*]; done)), H', ⟨by have := HK1.out; first | omega | exact Nat.le_refl _⟩, ⟨by (with_reducible repeat (first | apply Kd.R_alloc | apply Kd.R_drewN | apply Kd.R_drew)); exact HO_9.out⟩, ⟨by repeat (first | (with_reducible first | exact HB.out | apply below_alloc | apply pw_below_drewN | apply below_drew1) | exact HB.out)⟩⟩
        · rw [if_neg c6] at H
          have c6b0 : decide (x10_1 < (l0.length : Int)) = false := decide_eq_false c6
          clear c6
          (first | rw [c6b0] | (simp only [i64_w, i32_w]; rw [c6b0]) | skip)
          have H' := Aside0.mk H
          clear H
          go_wp2
          go_meet
          case rel => exact ⟨_, (false), (by first | rfl | (simp; done) | (simp [*]; done)), H', ⟨by have := HK1.out; first | omega | exact Nat.le_refl _⟩, ⟨by (with_reducible repeat (first | apply Kd.R_alloc | apply Kd.R_drewN | apply Kd.R_drew)); exact HO_9.out⟩, ⟨by repeat (first | (with_reducible first | exact HB.out | apply below_alloc | apply pw_below_drewN | apply below_drew1) | exact HB.out)⟩⟩
      case rest =>
        clear HC5
        try clear p2
        try clear c4
        try clear c6
        try clear c6b0
        try clear p2
        obtain ⟨kq, x22_4, rfl, HA, HJ4, HO_9, HB⟩ := hcut
        cases kq with
        | zero => exact absurd HA.out (by simp [monikerref1_kept.j1])
        | succ kj4 =>
          have H := HA.out
          clear HA
          simp only [monikerref1_kept.j1] at H
          by_cases c7 : x22_4 = true
          · subst c7
            have H1 : (if 0 ≤ x10_1 then (if x10_1 < (l0.length : Int) then ((monikerref1_Run_size.f ((rd_T61 l0 x10_1).f0) ((rd_T61 l0 x10_1).f1) ((rd_T61 l0 x10_1).f2) ((rd_T61 l0 x10_1).f3)).bind fun t163 => (if t163 = 0 then (if x1_1 ≥ a2 then (monikerref1_kept.j2 kj4 l0 x1_1 a2 a3 x9_1 x10_1 t163 (decide (x1_1 ≤ a3))) else (monikerref1_kept.j2 kj4 l0 x1_1 a2 a3 x9_1 x10_1 t163 false)) else (monikerref1_kept.j2 kj4 l0 x1_1 a2 a3 x9_1 x10_1 t163 false))) else (none)) else (none)) = some r := by rw [if_pos rfl] at H; exact H
            clear H
            have H := H1
            clear H1
            by_cases c8 : 0 ≤ x10_1
            · rw [if_pos c8] at H
              have c8b0 : decide (0 ≤ x10_1) = true := decide_eq_true c8
              clear c8
              by_cases c9 : x10_1 < (l0.length : Int)
              · rw [if_pos c9] at H
                have c9b0 : decide (x10_1 < (l0.length : Int)) = true := decide_eq_true c9
                clear c9
                replace H := Option.bind_eq_some_iff.mp H
                obtain ⟨t163, A100, H⟩ := H
                replace H : (if t163 = 0 then (if x1_1 ≥ a2 then (monikerref1_kept.j2 kj4 l0 x1_1 a2 a3 x9_1 x10_1 t163 (decide (x1_1 ≤ a3))) else (monikerref1_kept.j2 kj4 l0 x1_1 a2 a3 x9_1 x10_1 t163 false)) else (monikerref1_kept.j2 kj4 l0 x1_1 a2 a3 x9_1 x10_1 t163 false)) = some r := H
                have A10 := Aside0.mk A100
                clear A100
                have HC11 := Aside0.mk H
                clear H
                have p162 : 0 ≤ (x10_1 : Int) := of_decide_eq_true (by first | (with_reducible assumption) | assumption)
                have q162 : x10_1 < (l0.length : Int) := of_decide_eq_true (by first | (with_reducible assumption) | assumption)
                obtain ⟨ad162, e162, hx162_0, hx162_1, hx162_2, hx162_3⟩ := at_T61 HR0.out x10_1 p162 q162
                cases e162
                replace hx162_0 := (HB.out.cell (World.block_lt_of_cell? w _ hx162_0)).trans hx162_0
                replace hx162_1 := (HB.out.cell (World.block_lt_of_cell? w _ hx162_1)).trans hx162_1
                replace hx162_2 := (HB.out.cell (World.block_lt_of_cell? w _ hx162_2)).trans hx162_2
                replace hx162_3 := (HB.out.cell (World.block_lt_of_cell? w _ hx162_3)).trans hx162_3
                replace p162 := eq_true p162
                replace q162 := eq_true q162
                go_upto_region 6 with (first | ((with_reducible refine gate_callee (f := 45) rfl ?_); refine goesL_ (some 29) rfl rfl Try.func45 (by kernel_rfl) rfl #[.agg #[.bool ((rd_T61 l0 x10_1).f0), .int .i64 ((rd_T61 l0 x10_1).f1), .int .i64 ((rd_T61 l0 x10_1).f2), .string ((rd_T61 l0 x10_1).f3)]] rfl (by (try simp only [List.map_toArray, List.map_cons, List.map_nil]); first | done | rfl | (simp only [List.length_drop, List.length_take]; rfl)) ?_; (with_reducible refine (monikerref1_Run_size.calls ((rd_T61 l0 x10_1).f0) ((rd_T61 l0 x10_1).f1) ((rd_T61 l0 x10_1).f2) ((rd_T61 l0 x10_1).f3) t163 _ A10.out).mono ?_); rintro e w12 ⟨rfl, hb⟩; refine ⟨_, rfl, ?_⟩; have n0_ := Aside0.mk (Kd.R_below (by (with_reducible repeat (first | apply Kd.R_alloc | apply Kd.R_drewN | apply Kd.R_drew)); exact HO_9.out) hb); have n1_ := Aside0.mk (below_step (by repeat (first | (with_reducible first | exact HB.out | apply below_alloc | apply pw_below_drewN | apply below_drew1) | exact HB.out)) hb); clear HO_9; clear HB; have HO_9 := n0_; have HB := n1_; clear n0_ n1_; (try clear hb); (try clear hb2); (try clear hk); (try clear hi)))
                (try simp only [Act.put, List.setIfInBounds_toArray, List.set_cons_zero, List.set_cons_succ])
                go_cut [41] (fun v41 wc => ∃ (kq : Nat) (x41_10 : Bool), v41 = .bool x41_10 ∧ Aside0 (monikerref1_kept.j2 kq l0 x1_1 a2 a3 x9_1 x10_1 t163 x41_10 = some r) ∧ Aside0 (kq ≤ kj4) ∧ Aside0 (Kd.R k61 61 wc w.heap.size (fun _ => True) u9 x9_1) ∧ Aside0 (Below w.heap.size w wc))
                case first =>
                  have H := HC11.out
                  clear HC11
                  by_cases c13 : t163 = 0
                  · rw [if_pos c13] at H
                    have c13b0 : (t163 == 0) = true := beq_iff_eq.mpr c13
                    have c13b1 : (t163 != 0) = false := bne_eq_false_iff_eq.mpr c13
                    clear c13
                    (first | rw [c13b0] | (simp only [i64_w, i32_w]; rw [c13b0]) | skip)
                    by_cases c14 : x1_1 ≥ a2
                    · rw [if_pos c14] at H
                      have c14b0 : decide (a2 ≤ x1_1) = true := decide_eq_true c14
                      clear c14
                      have H' := Aside0.mk H
                      clear H
                      go_wp2
                      go_meet
                      case rel => exact ⟨_, (decide (x1_1 ≤ a3)), (by first | rfl | (simp; done) | (simp [*]; done)), H', ⟨by have := HK1.out; have := HJ4.out; first | omega | exact Nat.le_refl _⟩, ⟨by (with_reducible repeat (first | apply Kd.R_alloc | apply Kd.R_drewN | apply Kd.R_drew)); exact HO_9.out⟩, ⟨by repeat (first | (with_reducible first | exact HB.out | apply below_alloc | apply pw_below_drewN | apply below_drew1) | exact HB.out)⟩⟩
                    · rw [if_neg c14] at H
                      have c14b0 : decide (a2 ≤ x1_1) = false := decide_eq_false c14
                      clear c14
                      have H' := Aside0.mk H
                      clear H
                      go_wp2
                      go_meet
                      case rel => exact ⟨_, (false), (by first | rfl | (simp; done) | (simp [*]; done)), H', ⟨by have := HK1.out; have := HJ4.out; first | omega | exact Nat.le_refl _⟩, ⟨by (with_reducible repeat (first | apply Kd.R_alloc | apply Kd.R_drewN | apply Kd.R_drew)); exact HO_9.out⟩, ⟨by repeat (first | (with_reducible first | exact HB.out | apply below_alloc | apply pw_below_drewN | apply below_drew1) | exact HB.out)⟩⟩
                  · rw [if_neg c13] at H
                    have c13b0 : (t163 == 0) = false := beq_eq_false_iff_ne.mpr c13
                    have c13b1 : (t163 != 0) = true := bne_iff_ne.mpr c13
                    (first | rw [c13b0] | (simp only [i64_w, i32_w]; rw [c13b0]) | skip)
                    have H' := Aside0.mk H
                    clear H
                    go_wp2
                    go_meet
                    case rel => exact ⟨_, (false), (by first | rfl | (simp; done) | (simp [*]; done)), H', ⟨by have := HK1.out; have := HJ4.out; first | omega | exact Nat.le_refl _⟩, ⟨by (with_reducible repeat (first | apply Kd.R_alloc | apply Kd.R_drewN | apply Kd.R_drew)); exact HO_9.out⟩, ⟨by repeat (first | (with_reducible first | exact HB.out | apply below_alloc | apply pw_below_drewN | apply below_drew1) | exact HB.out)⟩⟩
                case rest =>
                  clear HC11
                  try clear c1
                  try clear p1
                  try clear q1
                  try clear hx1
                  try clear p2
                  try clear c4
                  try clear c6
                  try clear c6b0
                  try clear c7
                  try clear c8
                  try clear c8b0
                  try clear c9
                  try clear c9b0
                  try clear c13
                  try clear c13b0
                  try clear c13b1
                  try clear c14
                  try clear c14b0
                  try clear hx162_0
                  try clear hx162_1
                  try clear hx162_2
                  try clear hx162_3
                  try clear p162
                  try clear p2
                  try clear q162
                  obtain ⟨kq, x41_10, rfl, HA, HJ10, HO_9, HB⟩ := hcut
                  cases kq with
                  | zero => exact absurd HA.out (by simp [monikerref1_kept.j2])
                  | succ kj10 =>
                    have H := HA.out
                    clear HA
                    simp only [monikerref1_kept.j2] at H
                    by_cases c15 : x41_10 = true
                    · subst c15
                      have H1 : (if 0 ≤ x10_1 then (if x10_1 < (l0.length : Int) then (if x9_1.length < 3518437208883 then ((some (x9_1 ++ [(⟨(rd_T61 l0 x10_1).f0, (rd_T61 l0 x10_1).f1, (rd_T61 l0 x10_1).f2, (rd_T61 l0 x10_1).f3⟩ : S61)] : List (S61))).bind fun y165 => (if (mx (wrap64 (a2 - x1_1)) 0) < (mn (wrap64 (a3 - x1_1)) t163) then ((monikerref1_Run_part.f ((rd_T61 l0 x10_1).f0) ((rd_T61 l0 x10_1).f1) ((rd_T61 l0 x10_1).f2) ((rd_T61 l0 x10_1).f3) (mx (wrap64 (a2 - x1_1)) 0) (mn (wrap64 (a3 - x1_1)) t163)).bind fun bt169 => (if y165.length < 3518437208883 then (monikerref1_kept.l0 kj10 l0 (wrap64 (x1_1 + t163)) a2 a3 (y165 ++ [(⟨bt169.1, bt169.2.1, bt169.2.2.1, bt169.2.2.2⟩ : S61)]) (wrap64 (x10_1 + 1))) else (none))) else (monikerref1_kept.l0 kj10 l0 (wrap64 (x1_1 + t163)) a2 a3 y165 (wrap64 (x10_1 + 1))))) else (none)) else (none)) else (none)) = some r := by rw [if_pos rfl] at H; exact H
                      clear H
                      have H := H1
                      clear H1
                      by_cases c16 : 0 ≤ x10_1
                      · rw [if_pos c16] at H
                        have c16b0 : decide (0 ≤ x10_1) = true := decide_eq_true c16
                        clear c16
                        by_cases c17 : x10_1 < (l0.length : Int)
                        · rw [if_pos c17] at H
                          have c17b0 : decide (x10_1 < (l0.length : Int)) = true := decide_eq_true c17
                          clear c17
                          by_cases c18 : x9_1.length < 3518437208883
                          · rw [if_pos c18] at H
                            have LMc18 := Aside0.mk c18
                            clear c18
                            obtain ⟨y165, hy165⟩ : ∃ y_ : List (S61), y_ = (x9_1 ++ [(⟨(rd_T61 l0 x10_1).f0, (rd_T61 l0 x10_1).f1, (rd_T61 l0 x10_1).f2, (rd_T61 l0 x10_1).f3⟩ : S61)]) := ⟨_, rfl⟩
                            replace H : (if (mx (wrap64 (a2 - x1_1)) 0) < (mn (wrap64 (a3 - x1_1)) t163) then ((monikerref1_Run_part.f ((rd_T61 l0 x10_1).f0) ((rd_T61 l0 x10_1).f1) ((rd_T61 l0 x10_1).f2) ((rd_T61 l0 x10_1).f3) (mx (wrap64 (a2 - x1_1)) 0) (mn (wrap64 (a3 - x1_1)) t163)).bind fun bt169 => (if y165.length < 3518437208883 then (monikerref1_kept.l0 kj10 l0 (wrap64 (x1_1 + t163)) a2 a3 (y165 ++ [(⟨bt169.1, bt169.2.1, bt169.2.2.1, bt169.2.2.2⟩ : S61)]) (wrap64 (x10_1 + 1))) else (none))) else (monikerref1_kept.l0 kj10 l0 (wrap64 (x1_1 + t163)) a2 a3 y165 (wrap64 (x10_1 + 1)))) = some r := by first | (rw [hy165]; with_reducible exact H) | (have H2_ := (Option.bind_some _ _).symm.trans H; rw [hy165]; with_reducible exact H2_) | (have H2_ := (Option.bind_some _ _).symm.trans H; with_reducible exact H2_) | with_reducible exact H | (rw [hy165]; exact H) | exact H
                            have Ny165 := Aside0.mk hy165
                            clear hy165
                            obtain ⟨ji19, hji19⟩ : ∃ j_ : Int, (mx (wrap64 (a2 - x1_1)) 0) = j_ := ⟨_, rfl⟩
                            replace H : (if (ji19) < (mn (wrap64 (a3 - x1_1)) t163) then ((monikerref1_Run_part.f ((rd_T61 l0 x10_1).f0) ((rd_T61 l0 x10_1).f1) ((rd_T61 l0 x10_1).f2) ((rd_T61 l0 x10_1).f3) (ji19) (mn (wrap64 (a3 - x1_1)) t163)).bind fun bt169 => (if y165.length < 3518437208883 then (monikerref1_kept.l0 kj10 l0 (wrap64 (x1_1 + t163)) a2 a3 (y165 ++ [(⟨bt169.1, bt169.2.1, bt169.2.2.1, bt169.2.2.2⟩ : S61)]) (wrap64 (x10_1 + 1))) else (none))) else (monikerref1_kept.l0 kj10 l0 (wrap64 (x1_1 + t163)) a2 a3 y165 (wrap64 (x10_1 + 1)))) = some r := by first | (rw [hji19] at H; exact H) | (simp only [hji19] at H ⊢; exact H)
                            have hji19_ : (if (wrap64 (a2 - x1_1)) < 0 then 0 else (wrap64 (a2 - x1_1))) = ji19 := hji19
                            obtain ⟨ji20, hji20⟩ : ∃ j_ : Int, (mn (wrap64 (a3 - x1_1)) t163) = j_ := ⟨_, rfl⟩
                            replace H : (if (ji19) < (ji20) then ((monikerref1_Run_part.f ((rd_T61 l0 x10_1).f0) ((rd_T61 l0 x10_1).f1) ((rd_T61 l0 x10_1).f2) ((rd_T61 l0 x10_1).f3) (ji19) (ji20)).bind fun bt169 => (if y165.length < 3518437208883 then (monikerref1_kept.l0 kj10 l0 (wrap64 (x1_1 + t163)) a2 a3 (y165 ++ [(⟨bt169.1, bt169.2.1, bt169.2.2.1, bt169.2.2.2⟩ : S61)]) (wrap64 (x10_1 + 1))) else (none))) else (monikerref1_kept.l0 kj10 l0 (wrap64 (x1_1 + t163)) a2 a3 y165 (wrap64 (x10_1 + 1)))) = some r := by first | (rw [hji20] at H; exact H) | (simp only [hji20] at H ⊢; exact H)
                            have hji20_ : (if t163 < (wrap64 (a3 - x1_1)) then t163 else (wrap64 (a3 - x1_1))) = ji20 := hji20
                            by_cases c21 : (ji19) < (ji20)
                            · rw [if_pos c21] at H
                              have c21b0 : decide ((ji19) < (ji20)) = true := decide_eq_true c21
                              clear c21
                              replace H := Option.bind_eq_some_iff.mp H
                              obtain ⟨⟨t169, t170, t171, t172⟩, A220, H⟩ := H
                              replace H : (if y165.length < 3518437208883 then (monikerref1_kept.l0 kj10 l0 (wrap64 (x1_1 + t163)) a2 a3 (y165 ++ [(⟨t169, t170, t171, t172⟩ : S61)]) (wrap64 (x10_1 + 1))) else (none)) = some r := H
                              have A22 := Aside0.mk A220
                              clear A220
                              by_cases c23 : y165.length < 3518437208883
                              · rw [if_pos c23] at H
                                have LMc23 := Aside0.mk c23
                                clear c23
                                obtain ⟨y173, hy173⟩ : ∃ y_ : List (S61), y_ = (y165 ++ [(⟨t169, t170, t171, t172⟩ : S61)]) := ⟨_, rfl⟩
                                replace H : (monikerref1_kept.l0 kj10 l0 (wrap64 (x1_1 + t163)) a2 a3 y173 (wrap64 (x10_1 + 1))) = some r := by first | (rw [hy173]; with_reducible exact H) | (have H2_ := (Option.bind_some _ _).symm.trans H; rw [hy173]; with_reducible exact H2_) | (have H2_ := (Option.bind_some _ _).symm.trans H; with_reducible exact H2_) | with_reducible exact H | (rw [hy173]; exact H) | exact H
                                have Ny173 := Aside0.mk hy173
                                clear hy173
                                have H' := Aside0.mk H
                                clear H
                                have p164 : 0 ≤ (x10_1 : Int) := of_decide_eq_true (by first | (with_reducible assumption) | assumption)
                                have q164 : x10_1 < (l0.length : Int) := of_decide_eq_true (by first | (with_reducible assumption) | assumption)
                                obtain ⟨ad164, e164, hx164_0, hx164_1, hx164_2, hx164_3⟩ := at_T61 HR0.out x10_1 p164 q164
                                obtain rfl : ad162 = ad164 := (by injection e164)
                                replace hx164_0 := (HB.out.cell (World.block_lt_of_cell? w _ hx164_0)).trans hx164_0
                                replace hx164_1 := (HB.out.cell (World.block_lt_of_cell? w _ hx164_1)).trans hx164_1
                                replace hx164_2 := (HB.out.cell (World.block_lt_of_cell? w _ hx164_2)).trans hx164_2
                                replace hx164_3 := (HB.out.cell (World.block_lt_of_cell? w _ hx164_3)).trans hx164_3
                                replace p164 := eq_true p164
                                replace q164 := eq_true q164
                                go_wp2_with (first | ((with_reducible refine gate_builtin (b := .append) (xs := #[.tmp 42, .tmp 47]) rfl ?_); at_builtin; refine Kd.R_append k61 (w0 := w) w.heap.size rfl (.tmp 42) (.tmp 47) 50 61 (.agg #[(.bool false), (.int .i64 0), (.int .i64 0), (.string ⟨#[]⟩)]) 40 rfl Try.underlying50 info61 rfl (by decide) (by omega) u9 x9_1 (⟨(rd_T61 l0 x10_1).f0, (rd_T61 l0 x10_1).f1, (rd_T61 l0 x10_1).f2, (rd_T61 l0 x10_1).f3⟩ : S61) [.bool ((rd_T61 l0 x10_1).f0), .int .i64 ((rd_T61 l0 x10_1).f1), .int .i64 ((rd_T61 l0 x10_1).f2), .string ((rd_T61 l0 x10_1).f3)] (fun _ => True) (fun _ => False) rfl rfl ?aP (fun _ hk => hk.elim) ?aF ?aO ?aB ?aS ?aL ?_; (case aP => exact k61_mkM _ _ _ (⟨(rd_T61 l0 x10_1).f0, (rd_T61 l0 x10_1).f1, (rd_T61 l0 x10_1).f2, (rd_T61 l0 x10_1).f3⟩ : S61)); (case aB => exact (by repeat (first | (with_reducible first | exact HB.out | apply below_alloc | apply pw_below_drewN | apply below_drew1) | exact HB.out))); (case aF => exact (fun _ _ => trivial)); (case aO => exact (by (with_reducible repeat (first | apply Kd.R_alloc | apply Kd.R_drewN | apply Kd.R_drew)); exact HO_9.out)); (case aS => exact (below_size (by repeat (first | (with_reducible first | exact HB.out | apply below_alloc | apply pw_below_drewN | apply below_drew1) | exact HB.out)))); (case aL => have := LMc18.out; omega); intro v166 w24 ho hb hg hat; rw [← Ny165.out] at ho; have n0_ := Aside0.mk (hb); have n1_ := Aside0.mk (ho); clear HB; clear HO_9; have HB := n0_; have HO167 := n1_; clear n0_ n1_; clear ho hb hg hat; have p168 : 0 ≤ (x10_1 : Int) := of_decide_eq_true (by first | (with_reducible assumption) | assumption); have q168 : x10_1 < (l0.length : Int) := of_decide_eq_true (by first | (with_reducible assumption) | assumption); obtain ⟨ad168, e168, hx168_0, hx168_1, hx168_2, hx168_3⟩ := at_T61 HR0.out x10_1 p168 q168; obtain rfl : ad162 = ad168 := (by injection e168); replace hx168_0 := (HB.out.cell (World.block_lt_of_cell? w _ hx168_0)).trans hx168_0; replace hx168_1 := (HB.out.cell (World.block_lt_of_cell? w _ hx168_1)).trans hx168_1; replace hx168_2 := (HB.out.cell (World.block_lt_of_cell? w _ hx168_2)).trans hx168_2; replace hx168_3 := (HB.out.cell (World.block_lt_of_cell? w _ hx168_3)).trans hx168_3; replace p168 := eq_true p168; replace q168 := eq_true q168) | ((with_reducible refine gate_callee (f := 48) rfl ?_); refine goesL_ (some 68) rfl rfl Try.func48 (by kernel_rfl) rfl #[.agg #[.bool ((rd_T61 l0 x10_1).f0), .int .i64 ((rd_T61 l0 x10_1).f1), .int .i64 ((rd_T61 l0 x10_1).f2), .string ((rd_T61 l0 x10_1).f3)], .int .i64 ji19, .int .i64 ji20] rfl (by (try simp only [List.map_toArray, List.map_cons, List.map_nil]); first | done | (simp only [hji19, hji20]; rfl) | rfl | (simp only [List.length_drop, List.length_take]; rfl)) ?_; (with_reducible refine (monikerref1_Run_part.calls ((rd_T61 l0 x10_1).f0) ((rd_T61 l0 x10_1).f1) ((rd_T61 l0 x10_1).f2) ((rd_T61 l0 x10_1).f3) ji19 ji20 t169 t170 t171 t172 _ A22.out).mono ?_); rintro e w25 ⟨rfl, hb⟩; refine ⟨_, rfl, ?_⟩; have n0_ := Aside0.mk (Kd.R_below (by (with_reducible repeat (first | apply Kd.R_alloc | apply Kd.R_drewN | apply Kd.R_drew)); exact HO167.out) hb); have n1_ := Aside0.mk (below_step (by repeat (first | (with_reducible first | exact HB.out | apply below_alloc | apply pw_below_drewN | apply below_drew1) | exact HB.out)) hb); clear HO167; clear HB; have HO167 := n0_; have HB := n1_; clear n0_ n1_; (try clear hb); (try clear hb2); (try clear hk); (try clear hi)) | ((with_reducible refine gate_builtin (b := .append) (xs := #[.tmp 61, .tmp 69]) rfl ?_); at_builtin; refine Kd.R_append k61 (w0 := w) w.heap.size rfl (.tmp 61) (.tmp 69) 50 61 (.agg #[(.bool false), (.int .i64 0), (.int .i64 0), (.string ⟨#[]⟩)]) 40 rfl Try.underlying50 info61 rfl (by decide) (by omega) v166 y165 (⟨t169, t170, t171, t172⟩ : S61) [.bool t169, .int .i64 t170, .int .i64 t171, .string t172] (fun _ => True) (fun _ => False) rfl rfl ?aP (fun _ hk => hk.elim) ?aF ?aO ?aB ?aS ?aL ?_; (case aP => exact k61_mkM _ _ _ (⟨t169, t170, t171, t172⟩ : S61)); (case aB => exact (by repeat (first | (with_reducible first | exact HB.out | apply below_alloc | apply pw_below_drewN | apply below_drew1) | exact HB.out))); (case aF => exact (fun _ _ => trivial)); (case aO => exact (by (with_reducible repeat (first | apply Kd.R_alloc | apply Kd.R_drewN | apply Kd.R_drew)); exact HO167.out)); (case aS => exact (below_size (by repeat (first | (with_reducible first | exact HB.out | apply below_alloc | apply pw_below_drewN | apply below_drew1) | exact HB.out)))); (case aL => have := LMc23.out; omega); intro v174 w26 ho hb hg hat; rw [← Ny173.out] at ho; have n0_ := Aside0.mk (hb); have n1_ := Aside0.mk (ho); clear HB; clear HO167; have HB := n0_; have HO175 := n1_; clear n0_ n1_; clear ho hb hg hat))
                                go_roundg kj10
                                case measure => have := HK1.out; have := HJ4.out; have := HJ10.out; omega
                                case rel => exact ⟨(wrap64 (x1_1 + t163)), (y173), (wrap64 (x10_1 + 1)), (by first | rfl | (simp; done) | (simp [*]; done)), (by first | rfl | (simp; done) | (simp [*]; done)), H', ⟨by have := HK1.out; have := HJ4.out; have := HJ10.out; omega⟩, ⟨by (with_reducible repeat (first | apply Kd.R_alloc | apply Kd.R_drewN | apply Kd.R_drew)); exact HO175.out⟩, ⟨by repeat (first | (with_reducible first | exact HB.out | apply below_alloc | apply pw_below_drewN | apply below_drew1) | exact HB.out)⟩⟩
                              · rw [if_neg c23] at H
                                exact absurd H (by simp)
                            · rw [if_neg c21] at H
                              have c21b0 : decide ((ji19) < (ji20)) = false := decide_eq_false c21
                              clear c21
                              have H' := Aside0.mk H
                              clear H
                              have p164 : 0 ≤ (x10_1 : Int) := of_decide_eq_true (by first | (with_reducible assumption) | assumption)
                              have q164 : x10_1 < (l0.length : Int) := of_decide_eq_true (by first | (with_reducible assumption) | assumption)
                              obtain ⟨ad164, e164, hx164_0, hx164_1, hx164_2, hx164_3⟩ := at_T61 HR0.out x10_1 p164 q164
                              obtain rfl : ad162 = ad164 := (by injection e164)
                              replace hx164_0 := (HB.out.cell (World.block_lt_of_cell? w _ hx164_0)).trans hx164_0
                              replace hx164_1 := (HB.out.cell (World.block_lt_of_cell? w _ hx164_1)).trans hx164_1
                              replace hx164_2 := (HB.out.cell (World.block_lt_of_cell? w _ hx164_2)).trans hx164_2
                              replace hx164_3 := (HB.out.cell (World.block_lt_of_cell? w _ hx164_3)).trans hx164_3
                              replace p164 := eq_true p164
                              replace q164 := eq_true q164
                              go_wp2_with (first | ((with_reducible refine gate_builtin (b := .append) (xs := #[.tmp 42, .tmp 47]) rfl ?_); at_builtin; refine Kd.R_append k61 (w0 := w) w.heap.size rfl (.tmp 42) (.tmp 47) 50 61 (.agg #[(.bool false), (.int .i64 0), (.int .i64 0), (.string ⟨#[]⟩)]) 40 rfl Try.underlying50 info61 rfl (by decide) (by omega) u9 x9_1 (⟨(rd_T61 l0 x10_1).f0, (rd_T61 l0 x10_1).f1, (rd_T61 l0 x10_1).f2, (rd_T61 l0 x10_1).f3⟩ : S61) [.bool ((rd_T61 l0 x10_1).f0), .int .i64 ((rd_T61 l0 x10_1).f1), .int .i64 ((rd_T61 l0 x10_1).f2), .string ((rd_T61 l0 x10_1).f3)] (fun _ => True) (fun _ => False) rfl rfl ?aP (fun _ hk => hk.elim) ?aF ?aO ?aB ?aS ?aL ?_; (case aP => exact k61_mkM _ _ _ (⟨(rd_T61 l0 x10_1).f0, (rd_T61 l0 x10_1).f1, (rd_T61 l0 x10_1).f2, (rd_T61 l0 x10_1).f3⟩ : S61)); (case aB => exact (by repeat (first | (with_reducible first | exact HB.out | apply below_alloc | apply pw_below_drewN | apply below_drew1) | exact HB.out))); (case aF => exact (fun _ _ => trivial)); (case aO => exact (by (with_reducible repeat (first | apply Kd.R_alloc | apply Kd.R_drewN | apply Kd.R_drew)); exact HO_9.out)); (case aS => exact (below_size (by repeat (first | (with_reducible first | exact HB.out | apply below_alloc | apply pw_below_drewN | apply below_drew1) | exact HB.out)))); (case aL => have := LMc18.out; omega); intro v166 w27 ho hb hg hat; rw [← Ny165.out] at ho; have n0_ := Aside0.mk (hb); have n1_ := Aside0.mk (ho); clear HB; clear HO_9; have HB := n0_; have HO167 := n1_; clear n0_ n1_; clear ho hb hg hat))
                              go_roundg kj10
                              case measure => have := HK1.out; have := HJ4.out; have := HJ10.out; omega
                              case rel => exact ⟨(wrap64 (x1_1 + t163)), (y165), (wrap64 (x10_1 + 1)), (by first | rfl | (simp; done) | (simp [*]; done)), (by first | rfl | (simp; done) | (simp [*]; done)), H', ⟨by have := HK1.out; have := HJ4.out; have := HJ10.out; omega⟩, ⟨by (with_reducible repeat (first | apply Kd.R_alloc | apply Kd.R_drewN | apply Kd.R_drew)); exact HO167.out⟩, ⟨by repeat (first | (with_reducible first | exact HB.out | apply below_alloc | apply pw_below_drewN | apply below_drew1) | exact HB.out)⟩⟩
                          · rw [if_neg c18] at H
                            exact absurd H (by simp)
                        · rw [if_neg c17] at H
                          exact absurd H (by simp)
                      · rw [if_neg c16] at H
                        exact absurd H (by simp)
                    · replace c15 := Bool.eq_false_iff.mpr c15
                      subst c15
                      have H1 : (if (mx (wrap64 (a2 - x1_1)) 0) < (mn (wrap64 (a3 - x1_1)) t163) then (if 0 ≤ x10_1 then (if x10_1 < (l0.length : Int) then ((monikerref1_Run_part.f ((rd_T61 l0 x10_1).f0) ((rd_T61 l0 x10_1).f1) ((rd_T61 l0 x10_1).f2) ((rd_T61 l0 x10_1).f3) (mx (wrap64 (a2 - x1_1)) 0) (mn (wrap64 (a3 - x1_1)) t163)).bind fun bt177 => (if x9_1.length < 3518437208883 then (monikerref1_kept.l0 kj10 l0 (wrap64 (x1_1 + t163)) a2 a3 (x9_1 ++ [(⟨bt177.1, bt177.2.1, bt177.2.2.1, bt177.2.2.2⟩ : S61)]) (wrap64 (x10_1 + 1))) else (none))) else (none)) else (none)) else (monikerref1_kept.l0 kj10 l0 (wrap64 (x1_1 + t163)) a2 a3 x9_1 (wrap64 (x10_1 + 1)))) = some r := by rw [if_neg (show ¬ (false = true) by decide)] at H; exact H
                      clear H
                      have H := H1
                      clear H1
                      obtain ⟨ji28, hji28⟩ : ∃ j_ : Int, (mx (wrap64 (a2 - x1_1)) 0) = j_ := ⟨_, rfl⟩
                      replace H : (if (ji28) < (mn (wrap64 (a3 - x1_1)) t163) then (if 0 ≤ x10_1 then (if x10_1 < (l0.length : Int) then ((monikerref1_Run_part.f ((rd_T61 l0 x10_1).f0) ((rd_T61 l0 x10_1).f1) ((rd_T61 l0 x10_1).f2) ((rd_T61 l0 x10_1).f3) (ji28) (mn (wrap64 (a3 - x1_1)) t163)).bind fun bt177 => (if x9_1.length < 3518437208883 then (monikerref1_kept.l0 kj10 l0 (wrap64 (x1_1 + t163)) a2 a3 (x9_1 ++ [(⟨bt177.1, bt177.2.1, bt177.2.2.1, bt177.2.2.2⟩ : S61)]) (wrap64 (x10_1 + 1))) else (none))) else (none)) else (none)) else (monikerref1_kept.l0 kj10 l0 (wrap64 (x1_1 + t163)) a2 a3 x9_1 (wrap64 (x10_1 + 1)))) = some r := by first | (rw [hji28] at H; exact H) | (simp only [hji28] at H ⊢; exact H)
                      have hji28_ : (if (wrap64 (a2 - x1_1)) < 0 then 0 else (wrap64 (a2 - x1_1))) = ji28 := hji28
                      obtain ⟨ji29, hji29⟩ : ∃ j_ : Int, (mn (wrap64 (a3 - x1_1)) t163) = j_ := ⟨_, rfl⟩
                      replace H : (if (ji28) < (ji29) then (if 0 ≤ x10_1 then (if x10_1 < (l0.length : Int) then ((monikerref1_Run_part.f ((rd_T61 l0 x10_1).f0) ((rd_T61 l0 x10_1).f1) ((rd_T61 l0 x10_1).f2) ((rd_T61 l0 x10_1).f3) (ji28) (ji29)).bind fun bt177 => (if x9_1.length < 3518437208883 then (monikerref1_kept.l0 kj10 l0 (wrap64 (x1_1 + t163)) a2 a3 (x9_1 ++ [(⟨bt177.1, bt177.2.1, bt177.2.2.1, bt177.2.2.2⟩ : S61)]) (wrap64 (x10_1 + 1))) else (none))) else (none)) else (none)) else (monikerref1_kept.l0 kj10 l0 (wrap64 (x1_1 + t163)) a2 a3 x9_1 (wrap64 (x10_1 + 1)))) = some r := by first | (rw [hji29] at H; exact H) | (simp only [hji29] at H ⊢; exact H)
                      have hji29_ : (if t163 < (wrap64 (a3 - x1_1)) then t163 else (wrap64 (a3 - x1_1))) = ji29 := hji29
                      by_cases c30 : (ji28) < (ji29)
                      · rw [if_pos c30] at H
                        have c30b0 : decide ((ji28) < (ji29)) = true := decide_eq_true c30
                        clear c30
                        by_cases c31 : 0 ≤ x10_1
                        · rw [if_pos c31] at H
                          have c31b0 : decide (0 ≤ x10_1) = true := decide_eq_true c31
                          clear c31
                          by_cases c32 : x10_1 < (l0.length : Int)
                          · rw [if_pos c32] at H
                            have c32b0 : decide (x10_1 < (l0.length : Int)) = true := decide_eq_true c32
                            clear c32
                            replace H := Option.bind_eq_some_iff.mp H
                            obtain ⟨⟨t177, t178, t179, t180⟩, A330, H⟩ := H
                            replace H : (if x9_1.length < 3518437208883 then (monikerref1_kept.l0 kj10 l0 (wrap64 (x1_1 + t163)) a2 a3 (x9_1 ++ [(⟨t177, t178, t179, t180⟩ : S61)]) (wrap64 (x10_1 + 1))) else (none)) = some r := H
                            have A33 := Aside0.mk A330
                            clear A330
                            by_cases c34 : x9_1.length < 3518437208883
                            · rw [if_pos c34] at H
                              have LMc34 := Aside0.mk c34
                              clear c34
                              obtain ⟨y181, hy181⟩ : ∃ y_ : List (S61), y_ = (x9_1 ++ [(⟨t177, t178, t179, t180⟩ : S61)]) := ⟨_, rfl⟩
                              replace H : (monikerref1_kept.l0 kj10 l0 (wrap64 (x1_1 + t163)) a2 a3 y181 (wrap64 (x10_1 + 1))) = some r := by first | (rw [hy181]; with_reducible exact H) | (have H2_ := (Option.bind_some _ _).symm.trans H; rw [hy181]; with_reducible exact H2_) | (have H2_ := (Option.bind_some _ _).symm.trans H; with_reducible exact H2_) | with_reducible exact H | (rw [hy181]; exact H) | exact H
                              have Ny181 := Aside0.mk hy181
                              clear hy181
                              have H' := Aside0.mk H
                              clear H
                              have p176 : 0 ≤ (x10_1 : Int) := of_decide_eq_true (by first | (with_reducible assumption) | assumption)
                              have q176 : x10_1 < (l0.length : Int) := of_decide_eq_true (by first | (with_reducible assumption) | assumption)
                              obtain ⟨ad176, e176, hx176_0, hx176_1, hx176_2, hx176_3⟩ := at_T61 HR0.out x10_1 p176 q176
                              obtain rfl : ad162 = ad176 := (by injection e176)
                              replace hx176_0 := (HB.out.cell (World.block_lt_of_cell? w _ hx176_0)).trans hx176_0
                              replace hx176_1 := (HB.out.cell (World.block_lt_of_cell? w _ hx176_1)).trans hx176_1
                              replace hx176_2 := (HB.out.cell (World.block_lt_of_cell? w _ hx176_2)).trans hx176_2
                              replace hx176_3 := (HB.out.cell (World.block_lt_of_cell? w _ hx176_3)).trans hx176_3
                              replace p176 := eq_true p176
                              replace q176 := eq_true q176
                              go_wp2_with (first | ((with_reducible refine gate_callee (f := 48) rfl ?_); refine goesL_ (some 68) rfl rfl Try.func48 (by kernel_rfl) rfl #[.agg #[.bool ((rd_T61 l0 x10_1).f0), .int .i64 ((rd_T61 l0 x10_1).f1), .int .i64 ((rd_T61 l0 x10_1).f2), .string ((rd_T61 l0 x10_1).f3)], .int .i64 ji28, .int .i64 ji29] rfl (by (try simp only [List.map_toArray, List.map_cons, List.map_nil]); first | done | (simp only [hji28, hji29]; rfl) | rfl | (simp only [List.length_drop, List.length_take]; rfl)) ?_; (with_reducible refine (monikerref1_Run_part.calls ((rd_T61 l0 x10_1).f0) ((rd_T61 l0 x10_1).f1) ((rd_T61 l0 x10_1).f2) ((rd_T61 l0 x10_1).f3) ji28 ji29 t177 t178 t179 t180 _ A33.out).mono ?_); rintro e w35 ⟨rfl, hb⟩; refine ⟨_, rfl, ?_⟩; have n0_ := Aside0.mk (Kd.R_below (by (with_reducible repeat (first | apply Kd.R_alloc | apply Kd.R_drewN | apply Kd.R_drew)); exact HO_9.out) hb); have n1_ := Aside0.mk (below_step (by repeat (first | (with_reducible first | exact HB.out | apply below_alloc | apply pw_below_drewN | apply below_drew1) | exact HB.out)) hb); clear HO_9; clear HB; have HO_9 := n0_; have HB := n1_; clear n0_ n1_; (try clear hb); (try clear hb2); (try clear hk); (try clear hi)) | ((with_reducible refine gate_builtin (b := .append) (xs := #[.tmp 61, .tmp 69]) rfl ?_); at_builtin; refine Kd.R_append k61 (w0 := w) w.heap.size rfl (.tmp 61) (.tmp 69) 50 61 (.agg #[(.bool false), (.int .i64 0), (.int .i64 0), (.string ⟨#[]⟩)]) 40 rfl Try.underlying50 info61 rfl (by decide) (by omega) u9 x9_1 (⟨t177, t178, t179, t180⟩ : S61) [.bool t177, .int .i64 t178, .int .i64 t179, .string t180] (fun _ => True) (fun _ => False) rfl rfl ?aP (fun _ hk => hk.elim) ?aF ?aO ?aB ?aS ?aL ?_; (case aP => exact k61_mkM _ _ _ (⟨t177, t178, t179, t180⟩ : S61)); (case aB => exact (by repeat (first | (with_reducible first | exact HB.out | apply below_alloc | apply pw_below_drewN | apply below_drew1) | exact HB.out))); (case aF => exact (fun _ _ => trivial)); (case aO => exact (by (with_reducible repeat (first | apply Kd.R_alloc | apply Kd.R_drewN | apply Kd.R_drew)); exact HO_9.out)); (case aS => exact (below_size (by repeat (first | (with_reducible first | exact HB.out | apply below_alloc | apply pw_below_drewN | apply below_drew1) | exact HB.out)))); (case aL => have := LMc34.out; omega); intro v182 w36 ho hb hg hat; rw [← Ny181.out] at ho; have n0_ := Aside0.mk (hb); have n1_ := Aside0.mk (ho); clear HB; clear HO_9; have HB := n0_; have HO183 := n1_; clear n0_ n1_; clear ho hb hg hat))
                              go_roundg kj10
                              case measure => have := HK1.out; have := HJ4.out; have := HJ10.out; omega
                              case rel => exact ⟨(wrap64 (x1_1 + t163)), (y181), (wrap64 (x10_1 + 1)), (by first | rfl | (simp; done) | (simp [*]; done)), (by first | rfl | (simp; done) | (simp [*]; done)), H', ⟨by have := HK1.out; have := HJ4.out; have := HJ10.out; omega⟩, ⟨by (with_reducible repeat (first | apply Kd.R_alloc | apply Kd.R_drewN | apply Kd.R_drew)); exact HO183.out⟩, ⟨by repeat (first | (with_reducible first | exact HB.out | apply below_alloc | apply pw_below_drewN | apply below_drew1) | exact HB.out)⟩⟩
                            · rw [if_neg c34] at H
                              exact absurd H (by simp)
                          · rw [if_neg c32] at H
                            exact absurd H (by simp)
                        · rw [if_neg c31] at H
                          exact absurd H (by simp)
                      · rw [if_neg c30] at H
                        have c30b0 : decide ((ji28) < (ji29)) = false := decide_eq_false c30
                        clear c30
                        have H' := Aside0.mk H
                        clear H
                        go_wp2
                        go_roundg kj10
                        case measure => have := HK1.out; have := HJ4.out; have := HJ10.out; omega
                        case rel => exact ⟨(wrap64 (x1_1 + t163)), (x9_1), (wrap64 (x10_1 + 1)), (by first | rfl | (simp; done) | (simp [*]; done)), (by first | rfl | (simp; done) | (simp [*]; done)), H', ⟨by have := HK1.out; have := HJ4.out; have := HJ10.out; omega⟩, ⟨by (with_reducible repeat (first | apply Kd.R_alloc | apply Kd.R_drewN | apply Kd.R_drew)); exact HO_9.out⟩, ⟨by repeat (first | (with_reducible first | exact HB.out | apply below_alloc | apply pw_below_drewN | apply below_drew1) | exact HB.out)⟩⟩
              · rw [if_neg c9] at H
                exact absurd H (by simp)
            · rw [if_neg c8] at H
              exact absurd H (by simp)
          · replace c7 := Bool.eq_false_iff.mpr c7
            subst c7
            have H1 : (some x9_1) = some r := by rw [if_neg (show ¬ (false = true) by decide)] at H; exact H
            clear H
            have H := H1
            clear H1
            obtain rfl := Option.some.inj H
            go_wp2
            go_ret
            exact ⟨_, by first | rfl | (simp [errW_none, errW_some] <;> rfl) | (simp [*, errW_none, errW_some] <;> rfl), by (with_reducible repeat (first | apply Kd.R_alloc | apply Kd.R_drewN | apply Kd.R_drew)); exact HO_9.out, by repeat (first | (with_reducible first | exact HB.out | apply below_alloc | apply pw_below_drewN | apply below_drew1) | exact HB.out)⟩

end Go.Proofs.Ytaihajmdngoeiaa.F
