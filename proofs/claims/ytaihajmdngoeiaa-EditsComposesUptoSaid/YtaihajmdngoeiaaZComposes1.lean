/- Texts of the proof of one law (Composes), part 1: functions printed as Lean functions with their walks, and what is proved of them. Conditions: those of each theorem. -/
import Derived.Test.YtaihajmdngoeiaaZComposes0
-- A text of this session's own program (wip/myprint.sh over a changed print tool): functions and their walks
namespace Go.Proofs.Ytaihajmdngoeiaa.F
open Go.RowKit Go.Proofs.YtaihajmdngoeiaaW.PrintWords Go.Proofs.YtaihajmdngoeiaaW.PrintLast Go.Proofs.YtaihajmdngoeiaaW.PrintMore
attribute [local go_sem] max2_int min2_int max_two min_two max_three min_three max_four min_four   -- for this text's walks alone
set_option linter.unusedVariables false
set_option linter.unusedSimpArgs false

/-! ### monikerref1_kept: function 46 -/
mutual
def monikerref1_kept.l0 : Nat → List (S61) → Int → Int → Int → List (S61) → Int → Option ((List (S61)))
  | 0, _, _, _, _, _, _ => none
  | k + 1, x0, x1, x2, x3, x9, x10 => if x10 < (x0.length : Int) then (monikerref1_kept.j1 k x0 x1 x2 x3 x9 x10 (decide (x1 ≤ x3))) else (monikerref1_kept.j1 k x0 x1 x2 x3 x9 x10 false)
def monikerref1_kept.j1 : Nat → List (S61) → Int → Int → Int → List (S61) → Int → Bool → Option ((List (S61)))
  | 0, _, _, _, _, _, _, _ => none
  | k + 1, x0, x1, x2, x3, x9, x10, x22 => if x22 = true then (if 0 ≤ x10 then (if x10 < (x0.length : Int) then ((monikerref1_Run_size.f ((rd_T61 x0 x10).f0) ((rd_T61 x0 x10).f1) ((rd_T61 x0 x10).f2) ((rd_T61 x0 x10).f3)).bind fun t163 => (if t163 = 0 then (if x1 ≥ x2 then (monikerref1_kept.j2 k x0 x1 x2 x3 x9 x10 t163 (decide (x1 ≤ x3))) else (monikerref1_kept.j2 k x0 x1 x2 x3 x9 x10 t163 false)) else (monikerref1_kept.j2 k x0 x1 x2 x3 x9 x10 t163 false))) else (none)) else (none)) else (some x9)
def monikerref1_kept.j2 : Nat → List (S61) → Int → Int → Int → List (S61) → Int → Int → Bool → Option ((List (S61)))
  | 0, _, _, _, _, _, _, _, _ => none
  | k + 1, x0, x1, x2, x3, x9, x10, x11, x41 => if x41 = true then (if 0 ≤ x10 then (if x10 < (x0.length : Int) then (if x9.length < 3518437208883 then ((some (x9 ++ [(⟨(rd_T61 x0 x10).f0, (rd_T61 x0 x10).f1, (rd_T61 x0 x10).f2, (rd_T61 x0 x10).f3⟩ : S61)] : List (S61))).bind fun y165 => (if (mx (wrap64 (x2 - x1)) 0) < (mn (wrap64 (x3 - x1)) x11) then ((monikerref1_Run_part.f ((rd_T61 x0 x10).f0) ((rd_T61 x0 x10).f1) ((rd_T61 x0 x10).f2) ((rd_T61 x0 x10).f3) (mx (wrap64 (x2 - x1)) 0) (mn (wrap64 (x3 - x1)) x11)).bind fun bt169 => (if y165.length < 3518437208883 then (monikerref1_kept.l0 k x0 (wrap64 (x1 + x11)) x2 x3 (y165 ++ [(⟨bt169.1, bt169.2.1, bt169.2.2.1, bt169.2.2.2⟩ : S61)]) (wrap64 (x10 + 1))) else (none))) else (monikerref1_kept.l0 k x0 (wrap64 (x1 + x11)) x2 x3 y165 (wrap64 (x10 + 1))))) else (none)) else (none)) else (none)) else (if (mx (wrap64 (x2 - x1)) 0) < (mn (wrap64 (x3 - x1)) x11) then (if 0 ≤ x10 then (if x10 < (x0.length : Int) then ((monikerref1_Run_part.f ((rd_T61 x0 x10).f0) ((rd_T61 x0 x10).f1) ((rd_T61 x0 x10).f2) ((rd_T61 x0 x10).f3) (mx (wrap64 (x2 - x1)) 0) (mn (wrap64 (x3 - x1)) x11)).bind fun bt177 => (if x9.length < 3518437208883 then (monikerref1_kept.l0 k x0 (wrap64 (x1 + x11)) x2 x3 (x9 ++ [(⟨bt177.1, bt177.2.1, bt177.2.2.1, bt177.2.2.2⟩ : S61)]) (wrap64 (x10 + 1))) else (none))) else (none)) else (none)) else (monikerref1_kept.l0 k x0 (wrap64 (x1 + x11)) x2 x3 x9 (wrap64 (x10 + 1))))
end
def monikerref1_kept.f (k : Nat) (l0 : List (S61)) (a1 : Int) (a2 : Int) (a3 : Int) : Option ((List (S61))) := monikerref1_kept.l0 k l0 a1 a2 a3 ([] : List (S61)) 0
set_option maxHeartbeats 8000000 in
set_option maxRecDepth 100000 in
theorem monikerref1_kept.calls (k : Nat) (A0 : Option Addr) (c0 : Nat) (l0 : List (S61)) (a1 : Int) (a2 : Int) (a3 : Int) (r : List (S61)) (w : World) (hr0 : Kd.C k61 w A0 l0.length l0) (hc0 : l0.length ≤ c0) (h : monikerref1_kept.f k l0 a1 a2 a3 = some r) :
    Calls Try.prog 46 #[.slice A0 l0.length c0, .int .i64 a1, .int .i64 a2, .int .i64 a3] w fun e w' => ∃ v0_ : Value, e = .returned (v0_) ∧ Kd.R k61 61 w' w.heap.size (fun _ => True) v0_ r ∧ Below w.heap.size w w' := by
  have hu61 := Try.underlying61
  have HR0 := Aside0.mk hr0
  have HC0 := Aside0.mk hc0
  clear hr0 hc0
  have HB := Aside0.mk (Below.refl w.heap.size w)
  have H : (monikerref1_kept.l0 k l0 a1 a2 a3 ([] : List (S61)) 0) = some r := h
  clear h
  have H' := Aside0.mk H
  clear H
  go_enter Try.func46, Try.ntmps46
  go_wp2
  go_loopg [1, 9, 10] k (fun kq v1 v9 v10 w' => ∃ (x1_1 : Int) (x9_1 : List (S61)) (x10_1 : Int), v1 = .int .i64 x1_1 ∧ v10 = .int .i64 x10_1 ∧ Aside0 (monikerref1_kept.l0 kq l0 x1_1 a2 a3 x9_1 x10_1 = some r) ∧ Aside0 (kq ≤ k) ∧ Aside0 (Kd.R k61 61 w' w.heap.size (fun _ => True) v9 x9_1) ∧ Aside0 (Below w.heap.size w w'))
  case atStart => exact ⟨(a1), (([] : List (S61))), (0), (by first | rfl | (simp; done) | (simp [*]; done)), (by first | rfl | (simp; done) | (simp [*]; done)), H', ⟨Nat.le_refl _⟩, ⟨by first | exact Kd.R_nil _ _ _ _ _ | exact Kd.N_nil _ _ _ _ _ | exact Kd.V_nil _ _ _ _ _ | exact Kd.Q_nil _ _ _ _ _ | exact Kd.S_nil _ _ _ _ _⟩, ⟨by repeat (first | (with_reducible first | exact HB.out | apply below_alloc | apply pw_below_drewN | apply below_drew1) | exact HB.out)⟩⟩
  case round =>
    clear H'
    try clear p2
    try clear c4
    obtain ⟨x1_1, x9_1, x10_1, rfl, rfl, HA, HK1, HO_9, HB⟩ := hrel
    cases gk with
    | zero => exact absurd HA.out (by simp [monikerref1_kept.l0])
    | succ k1 =>
      have H := HA.out
      clear HA
      simp only [monikerref1_kept.l0] at H
      have HC5 := Aside0.mk H
      clear H
      go_upto_region 3 with (fail)
      go_cut [22] (fun v22 wc => ∃ (kq : Nat) (x22_4 : Bool), v22 = .bool x22_4 ∧ Aside0 (monikerref1_kept.j1 kq l0 x1_1 a2 a3 x9_1 x10_1 x22_4 = some r) ∧ Aside0 (kq ≤ k1) ∧ Aside0 (Kd.R k61 61 wc w.heap.size (fun _ => True) u9 x9_1) ∧ Aside0 (Below w.heap.size w wc))
      case first =>
        have H := HC5.out
        clear HC5
        by_cases c6 : x10_1 < (l0.length : Int)
        · rw [if_pos c6] at H
          have c6b0 : decide (x10_1 < (l0.length : Int)) = true := decide_eq_true c6
          clear c6
          (first | rw [c6b0] | (simp only [i64_w, i32_w]; rw [c6b0]) | skip)
          have H' := Aside0.mk H
          clear H
          go_wp2
          go_meet
          case rel => exact ⟨_, (decide (x1_1 ≤ a3)), (by first | rfl | (simp; done) | (simp [*]; done)), H', ⟨by have := HK1.out; first | omega | exact Nat.le_refl _⟩, ⟨by (with_reducible repeat (first | apply Kd.R_alloc | apply Kd.R_drewN | apply Kd.R_drew)); exact HO_9.out⟩, ⟨by repeat (first | (with_reducible first | exact HB.out | apply below_alloc | apply pw_below_drewN | apply below_drew1) | exact HB.out)⟩⟩
        · rw [if_neg c6] at H
          have c6b0 : decide (x10_1 < (l0.length : Int)) = false := decide_eq_false c6
          clear c6
          (first | rw [c6b0] | (simp only [i64_w, i32_w]; rw [c6b0]) | skip)
          have H' := Aside0.mk H
          clear H
          go_wp2
          go_meet
          case rel => exact ⟨_, (false), (by first | rfl | (simp; done) | (simp [*]; done)), H', ⟨by have := HK1.out; first | omega | exact Nat.le_refl _⟩, ⟨by (with_reducible repeat (first | apply Kd.R_alloc | apply Kd.R_drewN | apply Kd.R_drew)); exact HO_9.out⟩, ⟨by repeat (first | (with_reducible first | exact HB.out | apply below_alloc | apply pw_below_drewN | apply below_drew1) | exact HB.out)⟩⟩
      case rest =>
        clear HC5
        try clear p2
        try clear c4
        try clear c6
        try clear c6b0
        try clear p2
        obtain ⟨kq, x22_4, rfl, HA, HJ4, HO_9, HB⟩ := hcut
        cases kq with
        | zero => exact absurd HA.out (by simp [monikerref1_kept.j1])
        | succ kj4 =>
          have H := HA.out
          clear HA
          simp only [monikerref1_kept.j1] at H
          by_cases c7 : x22_4 = true
          · subst c7
            have H1 : (if 0 ≤ x10_1 then (if x10_1 < (l0.length : Int) then ((monikerref1_Run_size.f ((rd_T61 l0 x10_1).f0) ((rd_T61 l0 x10_1).f1) ((rd_T61 l0 x10_1).f2) ((rd_T61 l0 x10_1).f3)).bind fun t163 => (if t163 = 0 then (if x1_1 ≥ a2 then (monikerref1_kept.j2 kj4 l0 x1_1 a2 a3 x9_1 x10_1 t163 (decide (x1_1 ≤ a3))) else (monikerref1_kept.j2 kj4 l0 x1_1 a2 a3 x9_1 x10_1 t163 false)) else (monikerref1_kept.j2 kj4 l0 x1_1 a2 a3 x9_1 x10_1 t163 false))) else (none)) else (none)) = some r := by rw [if_pos rfl] at H; exact H
            clear H
            have H := H1
            clear H1
            by_cases c8 : 0 ≤ x10_1
            · rw [if_pos c8] at H
              have c8b0 : decide (0 ≤ x10_1) = true := decide_eq_true c8
              clear c8
              by_cases c9 : x10_1 < (l0.length : Int)
              · rw [if_pos c9] at H
                have c9b0 : decide (x10_1 < (l0.length : Int)) = true := decide_eq_true c9
                clear c9
                replace H := Option.bind_eq_some_iff.mp H
                obtain ⟨t163, A100, H⟩ := H
                replace H : (if t163 = 0 then (if x1_1 ≥ a2 then (monikerref1_kept.j2 kj4 l0 x1_1 a2 a3 x9_1 x10_1 t163 (decide (x1_1 ≤ a3))) else (monikerref1_kept.j2 kj4 l0 x1_1 a2 a3 x9_1 x10_1 t163 false)) else (monikerref1_kept.j2 kj4 l0 x1_1 a2 a3 x9_1 x10_1 t163 false)) = some r := H
                have A10 := Aside0.mk A100
                clear A100
                have HC11 := Aside0.mk H
                clear H
                have p162 : 0 ≤ (x10_1 : Int) := of_decide_eq_true (by first | (with_reducible assumption) | assumption)
                have q162 : x10_1 < (l0.length : Int) := of_decide_eq_true (by first | (with_reducible assumption) | assumption)
                obtain ⟨ad162, e162, hx162_0, hx162_1, hx162_2, hx162_3⟩ := at_T61 HR0.out x10_1 p162 q162
                cases e162
                replace hx162_0 := (HB.out.cell (World.block_lt_of_cell? w _ hx162_0)).trans hx162_0
                replace hx162_1 := (HB.out.cell (World.block_lt_of_cell? w _ hx162_1)).trans hx162_1
                replace hx162_2 := (HB.out.cell (World.block_lt_of_cell? w _ hx162_2)).trans hx162_2
                replace hx162_3 := (HB.out.cell (World.block_lt_of_cell? w _ hx162_3)).trans hx162_3
                replace p162 := eq_true p162
                replace q162 := eq_true q162
                go_upto_region 6 with (first | ((with_reducible refine gate_callee (f := 45) rfl ?_); refine goesL_ (some 29) rfl rfl Try.func45 (by kernel_rfl) rfl #[.agg #[.bool ((rd_T61 l0 x10_1).f0), .int .i64 ((rd_T61 l0 x10_1).f1), .int .i64 ((rd_T61 l0 x10_1).f2), .string ((rd_T61 l0 x10_1).f3)]] rfl (by (try simp only [List.map_toArray, List.map_cons, List.map_nil]); first | done | rfl | (simp only [List.length_drop, List.length_take]; rfl)) ?_; (with_reducible refine (monikerref1_Run_size.calls ((rd_T61 l0 x10_1).f0) ((rd_T61 l0 x10_1).f1) ((rd_T61 l0 x10_1).f2) ((rd_T61 l0 x10_1).f3) t163 _ A10.out).mono ?_); rintro e w12 ⟨rfl, hb⟩; refine ⟨_, rfl, ?_⟩; have n0_ := Aside0.mk (Kd.R_below (by (with_reducible repeat (first | apply Kd.R_alloc | apply Kd.R_drewN | apply Kd.R_drew)); exact HO_9.out) hb); have n1_ := Aside0.mk (below_step (by repeat (first | (with_reducible first | exact HB.out | apply below_alloc | apply pw_below_drewN | apply below_drew1) | exact HB.out)) hb); clear HO_9; clear HB; have HO_9 := n0_; have HB := n1_; clear n0_ n1_; (try clear hb); (try clear hb2); (try clear hk); (try clear hi)))
                (try simp only [Act.put, List.setIfInBounds_toArray, List.set_cons_zero, List.set_cons_succ])
                go_cut [41] (fun v41 wc => ∃ (kq : Nat) (x41_10 : Bool), v41 = .bool x41_10 ∧ Aside0 (monikerref1_kept.j2 kq l0 x1_1 a2 a3 x9_1 x10_1 t163 x41_10 = some r) ∧ Aside0 (kq ≤ kj4) ∧ Aside0 (Kd.R k61 61 wc w.heap.size (fun _ => True) u9 x9_1) ∧ Aside0 (Below w.heap.size w wc))
                case first =>
                  have H := HC11.out
                  clear HC11
                  by_cases c13 : t163 = 0
                  · rw [if_pos c13] at H
                    have c13b0 : (t163 == 0) = true := beq_iff_eq.mpr c13
                    have c13b1 : (t163 != 0) = false := bne_eq_false_iff_eq.mpr c13
                    clear c13
                    (first | rw [c13b0] | (simp only [i64_w, i32_w]; rw [c13b0]) | skip)
                    by_cases c14 : x1_1 ≥ a2
                    · rw [if_pos c14] at H
                      have c14b0 : decide (a2 ≤ x1_1) = true := decide_eq_true c14
                      clear c14
                      have H' := Aside0.mk H
                      clear H
                      go_wp2
                      go_meet
                      case rel => exact ⟨_, (decide (x1_1 ≤ a3)), (by first | rfl | (simp; done) | (simp [*]; done)), H', ⟨by have := HK1.out; have := HJ4.out; first | omega | exact Nat.le_refl _⟩, ⟨by (with_reducible repeat (first | apply Kd.R_alloc | apply Kd.R_drewN | apply Kd.R_drew)); exact HO_9.out⟩, ⟨by repeat (first | (with_reducible first | exact HB.out | apply below_alloc | apply pw_below_drewN | apply below_drew1) | exact HB.out)⟩⟩
                    · rw [if_neg c14] at H
                      have c14b0 : decide (a2 ≤ x1_1) = false := decide_eq_false c14
                      clear c14
                      have H' := Aside0.mk H
                      clear H
                      go_wp2
                      go_meet
                      case rel => exact ⟨_, (false), (by first | rfl | (simp; done) | (simp [*]; done)), H', ⟨by have := HK1.out; have := HJ4.out; first | omega | exact Nat.le_refl _⟩, ⟨by (with_reducible repeat (first | apply Kd.R_alloc | apply Kd.R_drewN | apply Kd.R_drew)); exact HO_9.out⟩, ⟨by repeat (first | (with_reducible first | exact HB.out | apply below_alloc | apply pw_below_drewN | apply below_drew1) | exact HB.out)⟩⟩
                  · rw [if_neg c13] at H
                    have c13b0 : (t163 == 0) = false := beq_eq_false_iff_ne.mpr c13
                    have c13b1 : (t163 != 0) = true := bne_iff_ne.mpr c13
                    (first | rw [c13b0] | (simp only [i64_w, i32_w]; rw [c13b0]) | skip)
                    have H' := Aside0.mk H
                    clear H
                    go_wp2
                    go_meet
                    case rel => exact ⟨_, (false), (by first | rfl | (simp; done) | (simp [*]; done)), H', ⟨by have := HK1.out; have := HJ4.out; first | omega | exact Nat.le_refl _⟩, ⟨by (with_reducible repeat (first | apply Kd.R_alloc | apply Kd.R_drewN | apply Kd.R_drew)); exact HO_9.out⟩, ⟨by repeat (first | (with_reducible first | exact HB.out | apply below_alloc | apply pw_below_drewN | apply below_drew1) | exact HB.out)⟩⟩
                case rest =>
                  clear HC11
                  try clear c1
                  try clear p1
                  try clear q1
                  try clear hx1
                  try clear p2
                  try clear c4
                  try clear c6
                  try clear c6b0
                  try clear c7
                  try clear c8
                  try clear c8b0
                  try clear c9
                  try clear c9b0
                  try clear c13
                  try clear c13b0
                  try clear c13b1
                  try clear c14
                  try clear c14b0
                  try clear hx162_0
                  try clear hx162_1
                  try clear hx162_2
                  try clear hx162_3
                  try clear p162
                  try clear p2
                  try clear q162
                  obtain ⟨kq, x41_10, rfl, HA, HJ10, HO_9, HB⟩ := hcut
                  cases kq with
                  | zero => exact absurd HA.out (by simp [monikerref1_kept.j2])
                  | succ kj10 =>
                    have H := HA.out
                    clear HA
                    simp only [monikerref1_kept.j2] at H
                    by_cases c15 : x41_10 = true
                    · subst c15
                      have H1 : (if 0 ≤ x10_1 then (if x10_1 < (l0.length : Int) then (if x9_1.length < 3518437208883 then ((some (x9_1 ++ [(⟨(rd_T61 l0 x10_1).f0, (rd_T61 l0 x10_1).f1, (rd_T61 l0 x10_1).f2, (rd_T61 l0 x10_1).f3⟩ : S61)] : List (S61))).bind fun y165 => (if (mx (wrap64 (a2 - x1_1)) 0) < (mn (wrap64 (a3 - x1_1)) t163) then ((monikerref1_Run_part.f ((rd_T61 l0 x10_1).f0) ((rd_T61 l0 x10_1).f1) ((rd_T61 l0 x10_1).f2) ((rd_T61 l0 x10_1).f3) (mx (wrap64 (a2 - x1_1)) 0) (mn (wrap64 (a3 - x1_1)) t163)).bind fun bt169 => (if y165.length < 3518437208883 then (monikerref1_kept.l0 kj10 l0 (wrap64 (x1_1 + t163)) a2 a3 (y165 ++ [(⟨bt169.1, bt169.2.1, bt169.2.2.1, bt169.2.2.2⟩ : S61)]) (wrap64 (x10_1 + 1))) else (none))) else (monikerref1_kept.l0 kj10 l0 (wrap64 (x1_1 + t163)) a2 a3 y165 (wrap64 (x10_1 + 1))))) else (none)) else (none)) else (none)) = some r := by rw [if_pos rfl] at H; exact H
                      clear H
                      have H := H1
                      clear H1
                      by_cases c16 : 0 ≤ x10_1
                      · rw [if_pos c16] at H
                        have c16b0 : decide (0 ≤ x10_1) = true := decide_eq_true c16
                        clear c16
                        by_cases c17 : x10_1 < (l0.length : Int)
                        · rw [if_pos c17] at H
                          have c17b0 : decide (x10_1 < (l0.length : Int)) = true := decide_eq_true c17
                          clear c17
                          by_cases c18 : x9_1.length < 3518437208883
                          · rw [if_pos c18] at H
                            have LMc18 := Aside0.mk c18
                            clear c18
                            obtain ⟨y165, hy165⟩ : ∃ y_ : List (S61), y_ = (x9_1 ++ [(⟨(rd_T61 l0 x10_1).f0, (rd_T61 l0 x10_1).f1, (rd_T61 l0 x10_1).f2, (rd_T61 l0 x10_1).f3⟩ : S61)]) := ⟨_, rfl⟩
                            replace H : (if (mx (wrap64 (a2 - x1_1)) 0) < (mn (wrap64 (a3 - x1_1)) t163) then ((monikerref1_Run_part.f ((rd_T61 l0 x10_1).f0) ((rd_T61 l0 x10_1).f1) ((rd_T61 l0 x10_1).f2) ((rd_T61 l0 x10_1).f3) (mx (wrap64 (a2 - x1_1)) 0) (mn (wrap64 (a3 - x1_1)) t163)).bind fun bt169 => (if y165.length < 3518437208883 then (monikerref1_kept.l0 kj10 l0 (wrap64 (x1_1 + t163)) a2 a3 (y165 ++ [(⟨bt169.1, bt169.2.1, bt169.2.2.1, bt169.2.2.2⟩ : S61)]) (wrap64 (x10_1 + 1))) else (none))) else (monikerref1_kept.l0 kj10 l0 (wrap64 (x1_1 + t163)) a2 a3 y165 (wrap64 (x10_1 + 1)))) = some r := by first | (rw [hy165]; with_reducible exact H) | (have H2_ := (Option.bind_some _ _).symm.trans H; rw [hy165]; with_reducible exact H2_) | (have H2_ := (Option.bind_some _ _).symm.trans H; with_reducible exact H2_) | with_reducible exact H | (rw [hy165]; exact H) | exact H
                            have Ny165 := Aside0.mk hy165
                            clear hy165
                            obtain ⟨ji19, hji19⟩ : ∃ j_ : Int, (mx (wrap64 (a2 - x1_1)) 0) = j_ := ⟨_, rfl⟩
                            replace H : (if (ji19) < (mn (wrap64 (a3 - x1_1)) t163) then ((monikerref1_Run_part.f ((rd_T61 l0 x10_1).f0) ((rd_T61 l0 x10_1).f1) ((rd_T61 l0 x10_1).f2) ((rd_T61 l0 x10_1).f3) (ji19) (mn (wrap64 (a3 - x1_1)) t163)).bind fun bt169 => (if y165.length < 3518437208883 then (monikerref1_kept.l0 kj10 l0 (wrap64 (x1_1 + t163)) a2 a3 (y165 ++ [(⟨bt169.1, bt169.2.1, bt169.2.2.1, bt169.2.2.2⟩ : S61)]) (wrap64 (x10_1 + 1))) else (none))) else (monikerref1_kept.l0 kj10 l0 (wrap64 (x1_1 + t163)) a2 a3 y165 (wrap64 (x10_1 + 1)))) = some r := by first | (rw [hji19] at H; exact H) | (simp only [hji19] at H ⊢; exact H)
                            have hji19_ : (if (wrap64 (a2 - x1_1)) < 0 then 0 else (wrap64 (a2 - x1_1))) = ji19 := hji19
                            obtain ⟨ji20, hji20⟩ : ∃ j_ : Int, (mn (wrap64 (a3 - x1_1)) t163) = j_ := ⟨_, rfl⟩
                            replace H : (if (ji19) < (ji20) then ((monikerref1_Run_part.f ((rd_T61 l0 x10_1).f0) ((rd_T61 l0 x10_1).f1) ((rd_T61 l0 x10_1).f2) ((rd_T61 l0 x10_1).f3) (ji19) (ji20)).bind fun bt169 => (if y165.length < 3518437208883 then (monikerref1_kept.l0 kj10 l0 (wrap64 (x1_1 + t163)) a2 a3 (y165 ++ [(⟨bt169.1, bt169.2.1, bt169.2.2.1, bt169.2.2.2⟩ : S61)]) (wrap64 (x10_1 + 1))) else (none))) else (monikerref1_kept.l0 kj10 l0 (wrap64 (x1_1 + t163)) a2 a3 y165 (wrap64 (x10_1 + 1)))) = some r := by first | (rw [hji20] at H; exact H) | (simp only [hji20] at H ⊢; exact H)
                            have hji20_ : (if t163 < (wrap64 (a3 - x1_1)) then t163 else (wrap64 (a3 - x1_1))) = ji20 := hji20
                            by_cases c21 : (ji19) < (ji20)
                            · rw [if_pos c21] at H
                              have c21b0 : decide ((ji19) < (ji20)) = true := decide_eq_true c21
                              clear c21
                              replace H := Option.bind_eq_some_iff.mp H
                              obtain ⟨⟨t169, t170, t171, t172⟩, A220, H⟩ := H
                              replace H : (if y165.length < 3518437208883 then (monikerref1_kept.l0 kj10 l0 (wrap64 (x1_1 + t163)) a2 a3 (y165 ++ [(⟨t169, t170, t171, t172⟩ : S61)]) (wrap64 (x10_1 + 1))) else (none)) = some r := H
                              have A22 := Aside0.mk A220
                              clear A220
                              by_cases c23 : y165.length < 3518437208883
                              · rw [if_pos c23] at H
                                have LMc23 := Aside0.mk c23
                                clear c23
                                obtain ⟨y173, hy173⟩ : ∃ y_ : List (S61), y_ = (y165 ++ [(⟨t169, t170, t171, t172⟩ : S61)]) := ⟨_, rfl⟩
                                replace H : (monikerref1_kept.l0 kj10 l0 (wrap64 (x1_1 + t163)) a2 a3 y173 (wrap64 (x10_1 + 1))) = some r := by first | (rw [hy173]; with_reducible exact H) | (have H2_ := (Option.bind_some _ _).symm.trans H; rw [hy173]; with_reducible exact H2_) | (have H2_ := (Option.bind_some _ _).symm.trans H; with_reducible exact H2_) | with_reducible exact H | (rw [hy173]; exact H) | exact H
                                have Ny173 := Aside0.mk hy173
                                clear hy173
                                have H' := Aside0.mk H
                                clear H
                                have p164 : 0 ≤ (x10_1 : Int) := of_decide_eq_true (by first | (with_reducible assumption) | assumption)
                                have q164 : x10_1 < (l0.length : Int) := of_decide_eq_true (by first | (with_reducible assumption) | assumption)
                                obtain ⟨ad164, e164, hx164_0, hx164_1, hx164_2, hx164_3⟩ := at_T61 HR0.out x10_1 p164 q164
                                obtain rfl : ad162 = ad164 := (by injection e164)
                                replace hx164_0 := (HB.out.cell (World.block_lt_of_cell? w _ hx164_0)).trans hx164_0
                                replace hx164_1 := (HB.out.cell (World.block_lt_of_cell? w _ hx164_1)).trans hx164_1
                                replace hx164_2 := (HB.out.cell (World.block_lt_of_cell? w _ hx164_2)).trans hx164_2
                                replace hx164_3 := (HB.out.cell (World.block_lt_of_cell? w _ hx164_3)).trans hx164_3
                                replace p164 := eq_true p164
                                replace q164 := eq_true q164
                                go_wp2_with (first | ((with_reducible refine gate_builtin (b := .append) (xs := #[.tmp 42, .tmp 47]) rfl ?_); at_builtin; refine Kd.R_append k61 (w0 := w) w.heap.size rfl (.tmp 42) (.tmp 47) 50 61 (.agg #[(.bool false), (.int .i64 0), (.int .i64 0), (.string ⟨#[]⟩)]) 40 rfl Try.underlying50 info61 rfl (by decide) (by omega) u9 x9_1 (⟨(rd_T61 l0 x10_1).f0, (rd_T61 l0 x10_1).f1, (rd_T61 l0 x10_1).f2, (rd_T61 l0 x10_1).f3⟩ : S61) [.bool ((rd_T61 l0 x10_1).f0), .int .i64 ((rd_T61 l0 x10_1).f1), .int .i64 ((rd_T61 l0 x10_1).f2), .string ((rd_T61 l0 x10_1).f3)] (fun _ => True) (fun _ => False) rfl rfl ?aP (fun _ hk => hk.elim) ?aF ?aO ?aB ?aS ?aL ?_; (case aP => exact k61_mkM _ _ _ (⟨(rd_T61 l0 x10_1).f0, (rd_T61 l0 x10_1).f1, (rd_T61 l0 x10_1).f2, (rd_T61 l0 x10_1).f3⟩ : S61)); (case aB => exact (by repeat (first | (with_reducible first | exact HB.out | apply below_alloc | apply pw_below_drewN | apply below_drew1) | exact HB.out))); (case aF => exact (fun _ _ => trivial)); (case aO => exact (by (with_reducible repeat (first | apply Kd.R_alloc | apply Kd.R_drewN | apply Kd.R_drew)); exact HO_9.out)); (case aS => exact (below_size (by repeat (first | (with_reducible first | exact HB.out | apply below_alloc | apply pw_below_drewN | apply below_drew1) | exact HB.out)))); (case aL => have := LMc18.out; omega); intro v166 w24 ho hb hg hat; rw [← Ny165.out] at ho; have n0_ := Aside0.mk (hb); have n1_ := Aside0.mk (ho); clear HB; clear HO_9; have HB := n0_; have HO167 := n1_; clear n0_ n1_; clear ho hb hg hat; have p168 : 0 ≤ (x10_1 : Int) := of_decide_eq_true (by first | (with_reducible assumption) | assumption); have q168 : x10_1 < (l0.length : Int) := of_decide_eq_true (by first | (with_reducible assumption) | assumption); obtain ⟨ad168, e168, hx168_0, hx168_1, hx168_2, hx168_3⟩ := at_T61 HR0.out x10_1 p168 q168; obtain rfl : ad162 = ad168 := (by injection e168); replace hx168_0 := (HB.out.cell (World.block_lt_of_cell? w _ hx168_0)).trans hx168_0; replace hx168_1 := (HB.out.cell (World.block_lt_of_cell? w _ hx168_1)).trans hx168_1; replace hx168_2 := (HB.out.cell (World.block_lt_of_cell? w _ hx168_2)).trans hx168_2; replace hx168_3 := (HB.out.cell (World.block_lt_of_cell? w _ hx168_3)).trans hx168_3; replace p168 := eq_true p168; replace q168 := eq_true q168) | ((with_reducible refine gate_callee (f := 48) rfl ?_); refine goesL_ (some 68) rfl rfl Try.func48 (by kernel_rfl) rfl #[.agg #[.bool ((rd_T61 l0 x10_1).f0), .int .i64 ((rd_T61 l0 x10_1).f1), .int .i64 ((rd_T61 l0 x10_1).f2), .string ((rd_T61 l0 x10_1).f3)], .int .i64 ji19, .int .i64 ji20] rfl (by (try simp only [List.map_toArray, List.map_cons, List.map_nil]); first | done | (simp only [hji19, hji20]; rfl) | rfl | (simp only [List.length_drop, List.length_take]; rfl)) ?_; (with_reducible refine (monikerref1_Run_part.calls ((rd_T61 l0 x10_1).f0) ((rd_T61 l0 x10_1).f1) ((rd_T61 l0 x10_1).f2) ((rd_T61 l0 x10_1).f3) ji19 ji20 t169 t170 t171 t172 _ A22.out).mono ?_); rintro e w25 ⟨rfl, hb⟩; refine ⟨_, rfl, ?_⟩; have n0_ := Aside0.mk (Kd.R_below (by (with_reducible repeat (first | apply Kd.R_alloc | apply Kd.R_drewN | apply Kd.R_drew)); exact HO167.out) hb); have n1_ := Aside0.mk (below_step (by repeat (first | (with_reducible first | exact HB.out | apply below_alloc | apply pw_below_drewN | apply below_drew1) | exact HB.out)) hb); clear HO167; clear HB; have HO167 := n0_; have HB := n1_; clear n0_ n1_; (try clear hb); (try clear hb2); (try clear hk); (try clear hi)) | ((with_reducible refine gate_builtin (b := .append) (xs := #[.tmp 61, .tmp 69]) rfl ?_); at_builtin; refine Kd.R_append k61 (w0 := w) w.heap.size rfl (.tmp 61) (.tmp 69) 50 61 (.agg #[(.bool false), (.int .i64 0), (.int .i64 0), (.string ⟨#[]⟩)]) 40 rfl Try.underlying50 info61 rfl (by decide) (by omega) v166 y165 (⟨t169, t170, t171, t172⟩ : S61) [.bool t169, .int .i64 t170, .int .i64 t171, .string t172] (fun _ => True) (fun _ => False) rfl rfl ?aP (fun _ hk => hk.elim) ?aF ?aO ?aB ?aS ?aL ?_; (case aP => exact k61_mkM _ _ _ (⟨t169, t170, t171, t172⟩ : S61)); (case aB => exact (by repeat (first | (with_reducible first | exact HB.out | apply below_alloc | apply pw_below_drewN | apply below_drew1) | exact HB.out))); (case aF => exact (fun _ _ => trivial)); (case aO => exact (by (with_reducible repeat (first | apply Kd.R_alloc | apply Kd.R_drewN | apply Kd.R_drew)); exact HO167.out)); (case aS => exact (below_size (by repeat (first | (with_reducible first | exact HB.out | apply below_alloc | apply pw_below_drewN | apply below_drew1) | exact HB.out)))); (case aL => have := LMc23.out; omega); intro v174 w26 ho hb hg hat; rw [← Ny173.out] at ho; have n0_ := Aside0.mk (hb); have n1_ := Aside0.mk (ho); clear HB; clear HO167; have HB := n0_; have HO175 := n1_; clear n0_ n1_; clear ho hb hg hat))
                                go_roundg kj10
                                case measure => have := HK1.out; have := HJ4.out; have := HJ10.out; omega
                                case rel => exact ⟨(wrap64 (x1_1 + t163)), (y173), (wrap64 (x10_1 + 1)), (by first | rfl | (simp; done) | (simp [*]; done)), (by first | rfl | (simp; done) | (simp [*]; done)), H', ⟨by have := HK1.out; have := HJ4.out; have := HJ10.out; omega⟩, ⟨by (with_reducible repeat (first | apply Kd.R_alloc | apply Kd.R_drewN | apply Kd.R_drew)); exact HO175.out⟩, ⟨by repeat (first | (with_reducible first | exact HB.out | apply below_alloc | apply pw_below_drewN | apply below_drew1) | exact HB.out)⟩⟩
                              · rw [if_neg c23] at H
                                exact absurd H (by simp)
                            · rw [if_neg c21] at H
                              have c21b0 : decide ((ji19) < (ji20)) = false := decide_eq_false c21
                              clear c21
                              have H' := Aside0.mk H
                              clear H
                              have p164 : 0 ≤ (x10_1 : Int) := of_decide_eq_true (by first | (with_reducible assumption) | assumption)
                              have q164 : x10_1 < (l0.length : Int) := of_decide_eq_true (by first | (with_reducible assumption) | assumption)
                              obtain ⟨ad164, e164, hx164_0, hx164_1, hx164_2, hx164_3⟩ := at_T61 HR0.out x10_1 p164 q164
                              obtain rfl : ad162 = ad164 := (by injection e164)
                              replace hx164_0 := (HB.out.cell (World.block_lt_of_cell? w _ hx164_0)).trans hx164_0
                              replace hx164_1 := (HB.out.cell (World.block_lt_of_cell? w _ hx164_1)).trans hx164_1
                              replace hx164_2 := (HB.out.cell (World.block_lt_of_cell? w _ hx164_2)).trans hx164_2
                              replace hx164_3 := (HB.out.cell (World.block_lt_of_cell? w _ hx164_3)).trans hx164_3
                              replace p164 := eq_true p164
                              replace q164 := eq_true q164
                              go_wp2_with (first | ((with_reducible refine gate_builtin (b := .append) (xs := #[.tmp 42, .tmp 47]) rfl ?_); at_builtin; refine Kd.R_append k61 (w0 := w) w.heap.size rfl (.tmp 42) (.tmp 47) 50 61 (.agg #[(.bool false), (.int .i64 0), (.int .i64 0), (.string ⟨#[]⟩)]) 40 rfl Try.underlying50 info61 rfl (by decide) (by omega) u9 x9_1 (⟨(rd_T61 l0 x10_1).f0, (rd_T61 l0 x10_1).f1, (rd_T61 l0 x10_1).f2, (rd_T61 l0 x10_1).f3⟩ : S61) [.bool ((rd_T61 l0 x10_1).f0), .int .i64 ((rd_T61 l0 x10_1).f1), .int .i64 ((rd_T61 l0 x10_1).f2), .string ((rd_T61 l0 x10_1).f3)] (fun _ => True) (fun _ => False) rfl rfl ?aP (fun _ hk => hk.elim) ?aF ?aO ?aB ?aS ?aL ?_; (case aP => exact k61_mkM _ _ _ (⟨(rd_T61 l0 x10_1).f0, (rd_T61 l0 x10_1).f1, (rd_T61 l0 x10_1).f2, (rd_T61 l0 x10_1).f3⟩ : S61)); (case aB => exact (by repeat (first | (with_reducible first | exact HB.out | apply below_alloc | apply pw_below_drewN | apply below_drew1) | exact HB.out))); (case aF => exact (fun _ _ => trivial)); (case aO => exact (by (with_reducible repeat (first | apply Kd.R_alloc | apply Kd.R_drewN | apply Kd.R_drew)); exact HO_9.out)); (case aS => exact (below_size (by repeat (first | (with_reducible first | exact HB.out | apply below_alloc | apply pw_below_drewN | apply below_drew1) | exact HB.out)))); (case aL => have := LMc18.out; omega); intro v166 w27 ho hb hg hat; rw [← Ny165.out] at ho; have n0_ := Aside0.mk (hb); have n1_ := Aside0.mk (ho); clear HB; clear HO_9; have HB := n0_; have HO167 := n1_; clear n0_ n1_; clear ho hb hg hat))
                              go_roundg kj10
                              case measure => have := HK1.out; have := HJ4.out; have := HJ10.out; omega
                              case rel => exact ⟨(wrap64 (x1_1 + t163)), (y165), (wrap64 (x10_1 + 1)), (by first | rfl | (simp; done) | (simp [*]; done)), (by first | rfl | (simp; done) | (simp [*]; done)), H', ⟨by have := HK1.out; have := HJ4.out; have := HJ10.out; omega⟩, ⟨by (with_reducible repeat (first | apply Kd.R_alloc | apply Kd.R_drewN | apply Kd.R_drew)); exact HO167.out⟩, ⟨by repeat (first | (with_reducible first | exact HB.out | apply below_alloc | apply pw_below_drewN | apply below_drew1) | exact HB.out)⟩⟩
                          · rw [if_neg c18] at H
                            exact absurd H (by simp)
                        · rw [if_neg c17] at H
                          exact absurd H (by simp)
                      · rw [if_neg c16] at H
                        exact absurd H (by simp)
                    · replace c15 := Bool.eq_false_iff.mpr c15
                      subst c15
                      have H1 : (if (mx (wrap64 (a2 - x1_1)) 0) < (mn (wrap64 (a3 - x1_1)) t163) then (if 0 ≤ x10_1 then (if x10_1 < (l0.length : Int) then ((monikerref1_Run_part.f ((rd_T61 l0 x10_1).f0) ((rd_T61 l0 x10_1).f1) ((rd_T61 l0 x10_1).f2) ((rd_T61 l0 x10_1).f3) (mx (wrap64 (a2 - x1_1)) 0) (mn (wrap64 (a3 - x1_1)) t163)).bind fun bt177 => (if x9_1.length < 3518437208883 then (monikerref1_kept.l0 kj10 l0 (wrap64 (x1_1 + t163)) a2 a3 (x9_1 ++ [(⟨bt177.1, bt177.2.1, bt177.2.2.1, bt177.2.2.2⟩ : S61)]) (wrap64 (x10_1 + 1))) else (none))) else (none)) else (none)) else (monikerref1_kept.l0 kj10 l0 (wrap64 (x1_1 + t163)) a2 a3 x9_1 (wrap64 (x10_1 + 1)))) = some r := by rw [if_neg (show ¬ (false = true) by decide)] at H; exact H
                      clear H
                      have H := H1
                      clear H1
                      obtain ⟨ji28, hji28⟩ : ∃ j_ : Int, (mx (wrap64 (a2 - x1_1)) 0) = j_ := ⟨_, rfl⟩
                      replace H : (if (ji28) < (mn (wrap64 (a3 - x1_1)) t163) then (if 0 ≤ x10_1 then (if x10_1 < (l0.length : Int) then ((monikerref1_Run_part.f ((rd_T61 l0 x10_1).f0) ((rd_T61 l0 x10_1).f1) ((rd_T61 l0 x10_1).f2) ((rd_T61 l0 x10_1).f3) (ji28) (mn (wrap64 (a3 - x1_1)) t163)).bind fun bt177 => (if x9_1.length < 3518437208883 then (monikerref1_kept.l0 kj10 l0 (wrap64 (x1_1 + t163)) a2 a3 (x9_1 ++ [(⟨bt177.1, bt177.2.1, bt177.2.2.1, bt177.2.2.2⟩ : S61)]) (wrap64 (x10_1 + 1))) else (none))) else (none)) else (none)) else (monikerref1_kept.l0 kj10 l0 (wrap64 (x1_1 + t163)) a2 a3 x9_1 (wrap64 (x10_1 + 1)))) = some r := by first | (rw [hji28] at H; exact H) | (simp only [hji28] at H ⊢; exact H)
                      have hji28_ : (if (wrap64 (a2 - x1_1)) < 0 then 0 else (wrap64 (a2 - x1_1))) = ji28 := hji28
                      obtain ⟨ji29, hji29⟩ : ∃ j_ : Int, (mn (wrap64 (a3 - x1_1)) t163) = j_ := ⟨_, rfl⟩
                      replace H : (if (ji28) < (ji29) then (if 0 ≤ x10_1 then (if x10_1 < (l0.length : Int) then ((monikerref1_Run_part.f ((rd_T61 l0 x10_1).f0) ((rd_T61 l0 x10_1).f1) ((rd_T61 l0 x10_1).f2) ((rd_T61 l0 x10_1).f3) (ji28) (ji29)).bind fun bt177 => (if x9_1.length < 3518437208883 then (monikerref1_kept.l0 kj10 l0 (wrap64 (x1_1 + t163)) a2 a3 (x9_1 ++ [(⟨bt177.1, bt177.2.1, bt177.2.2.1, bt177.2.2.2⟩ : S61)]) (wrap64 (x10_1 + 1))) else (none))) else (none)) else (none)) else (monikerref1_kept.l0 kj10 l0 (wrap64 (x1_1 + t163)) a2 a3 x9_1 (wrap64 (x10_1 + 1)))) = some r := by first | (rw [hji29] at H; exact H) | (simp only [hji29] at H ⊢; exact H)
                      have hji29_ : (if t163 < (wrap64 (a3 - x1_1)) then t163 else (wrap64 (a3 - x1_1))) = ji29 := hji29
                      by_cases c30 : (ji28) < (ji29)
                      · rw [if_pos c30] at H
                        have c30b0 : decide ((ji28) < (ji29)) = true := decide_eq_true c30
                        clear c30
                        by_cases c31 : 0 ≤ x10_1
                        · rw [if_pos c31] at H
                          have c31b0 : decide (0 ≤ x10_1) = true := decide_eq_true c31
                          clear c31
                          by_cases c32 : x10_1 < (l0.length : Int)
                          · rw [if_pos c32] at H
                            have c32b0 : decide (x10_1 < (l0.length : Int)) = true := decide_eq_true c32
                            clear c32
                            replace H := Option.bind_eq_some_iff.mp H
                            obtain ⟨⟨t177, t178, t179, t180⟩, A330, H⟩ := H
                            replace H : (if x9_1.length < 3518437208883 then (monikerref1_kept.l0 kj10 l0 (wrap64 (x1_1 + t163)) a2 a3 (x9_1 ++ [(⟨t177, t178, t179, t180⟩ : S61)]) (wrap64 (x10_1 + 1))) else (none)) = some r := H
                            have A33 := Aside0.mk A330
                            clear A330
                            by_cases c34 : x9_1.length < 3518437208883
                            · rw [if_pos c34] at H
                              have LMc34 := Aside0.mk c34
                              clear c34
                              obtain ⟨y181, hy181⟩ : ∃ y_ : List (S61), y_ = (x9_1 ++ [(⟨t177, t178, t179, t180⟩ : S61)]) := ⟨_, rfl⟩
                              replace H : (monikerref1_kept.l0 kj10 l0 (wrap64 (x1_1 + t163)) a2 a3 y181 (wrap64 (x10_1 + 1))) = some r := by first | (rw [hy181]; with_reducible exact H) | (have H2_ := (Option.bind_some _ _).symm.trans H; rw [hy181]; with_reducible exact H2_) | (have H2_ := (Option.bind_some _ _).symm.trans H; with_reducible exact H2_) | with_reducible exact H | (rw [hy181]; exact H) | exact H
                              have Ny181 := Aside0.mk hy181
                              clear hy181
                              have H' := Aside0.mk H
                              clear H
                              have p176 : 0 ≤ (x10_1 : Int) := of_decide_eq_true (by first | (with_reducible assumption) | assumption)
                              have q176 : x10_1 < (l0.length : Int) := of_decide_eq_true (by first | (with_reducible assumption) | assumption)
                              obtain ⟨ad176, e176, hx176_0, hx176_1, hx176_2, hx176_3⟩ := at_T61 HR0.out x10_1 p176 q176
                              obtain rfl : ad162 = ad176 := (by injection e176)
                              replace hx176_0 := (HB.out.cell (World.block_lt_of_cell? w _ hx176_0)).trans hx176_0
                              replace hx176_1 := (HB.out.cell (World.block_lt_of_cell? w _ hx176_1)).trans hx176_1
                              replace hx176_2 := (HB.out.cell (World.block_lt_of_cell? w _ hx176_2)).trans hx176_2
                              replace hx176_3 := (HB.out.cell (World.block_lt_of_cell? w _ hx176_3)).trans hx176_3
                              replace p176 := eq_true p176
                              replace q176 := eq_true q176
                              go_wp2_with (first | ((with_reducible refine gate_callee (f := 48) rfl ?_); refine goesL_ (some 68) rfl rfl Try.func48 (by kernel_rfl) rfl #[.agg #[.bool ((rd_T61 l0 x10_1).f0), .int .i64 ((rd_T61 l0 x10_1).f1), .int .i64 ((rd_T61 l0 x10_1).f2), .string ((rd_T61 l0 x10_1).f3)], .int .i64 ji28, .int .i64 ji29] rfl (by (try simp only [List.map_toArray, List.map_cons, List.map_nil]); first | done | (simp only [hji28, hji29]; rfl) | rfl | (simp only [List.length_drop, List.length_take]; rfl)) ?_; (with_reducible refine (monikerref1_Run_part.calls ((rd_T61 l0 x10_1).f0) ((rd_T61 l0 x10_1).f1) ((rd_T61 l0 x10_1).f2) ((rd_T61 l0 x10_1).f3) ji28 ji29 t177 t178 t179 t180 _ A33.out).mono ?_); rintro e w35 ⟨rfl, hb⟩; refine ⟨_, rfl, ?_⟩; have n0_ := Aside0.mk (Kd.R_below (by (with_reducible repeat (first | apply Kd.R_alloc | apply Kd.R_drewN | apply Kd.R_drew)); exact HO_9.out) hb); have n1_ := Aside0.mk (below_step (by repeat (first | (with_reducible first | exact HB.out | apply below_alloc | apply pw_below_drewN | apply below_drew1) | exact HB.out)) hb); clear HO_9; clear HB; have HO_9 := n0_; have HB := n1_; clear n0_ n1_; (try clear hb); (try clear hb2); (try clear hk); (try clear hi)) | ((with_reducible refine gate_builtin (b := .append) (xs := #[.tmp 61, .tmp 69]) rfl ?_); at_builtin; refine Kd.R_append k61 (w0 := w) w.heap.size rfl (.tmp 61) (.tmp 69) 50 61 (.agg #[(.bool false), (.int .i64 0), (.int .i64 0), (.string ⟨#[]⟩)]) 40 rfl Try.underlying50 info61 rfl (by decide) (by omega) u9 x9_1 (⟨t177, t178, t179, t180⟩ : S61) [.bool t177, .int .i64 t178, .int .i64 t179, .string t180] (fun _ => True) (fun _ => False) rfl rfl ?aP (fun _ hk => hk.elim) ?aF ?aO ?aB ?aS ?aL ?_; (case aP => exact k61_mkM _ _ _ (⟨t177, t178, t179, t180⟩ : S61)); (case aB => exact (by repeat (first | (with_reducible first | exact HB.out | apply below_alloc | apply pw_below_drewN | apply below_drew1) | exact HB.out))); (case aF => exact (fun _ _ => trivial)); (case aO => exact (by (with_reducible repeat (first | apply Kd.R_alloc | apply Kd.R_drewN | apply Kd.R_drew)); exact HO_9.out)); (case aS => exact (below_size (by repeat (first | (with_reducible first | exact HB.out | apply below_alloc | apply pw_below_drewN | apply below_drew1) | exact HB.out)))); (case aL => have := LMc34.out; omega); intro v182 w36 ho hb hg hat; rw [← Ny181.out] at ho; have n0_ := Aside0.mk (hb); have n1_ := Aside0.mk (ho); clear HB; clear HO_9; have HB := n0_; have HO183 := n1_; clear n0_ n1_; clear ho hb hg hat))
                              go_roundg kj10
                              case measure => have := HK1.out; have := HJ4.out; have := HJ10.out; omega
                              case rel => exact ⟨(wrap64 (x1_1 + t163)), (y181), (wrap64 (x10_1 + 1)), (by first | rfl | (simp; done) | (simp [*]; done)), (by first | rfl | (simp; done) | (simp [*]; done)), H', ⟨by have := HK1.out; have := HJ4.out; have := HJ10.out; omega⟩, ⟨by (with_reducible repeat (first | apply Kd.R_alloc | apply Kd.R_drewN | apply Kd.R_drew)); exact HO183.out⟩, ⟨by repeat (first | (with_reducible first | exact HB.out | apply below_alloc | apply pw_below_drewN | apply below_drew1) | exact HB.out)⟩⟩
                            · rw [if_neg c34] at H
                              exact absurd H (by simp)
                          · rw [if_neg c32] at H
                            exact absurd H (by simp)
                        · rw [if_neg c31] at H
                          exact absurd H (by simp)
                      · rw [if_neg c30] at H
                        have c30b0 : decide ((ji28) < (ji29)) = false := decide_eq_false c30
                        clear c30
                        have H' := Aside0.mk H
                        clear H
                        go_wp2
                        go_roundg kj10
                        case measure => have := HK1.out; have := HJ4.out; have := HJ10.out; omega
                        case rel => exact ⟨(wrap64 (x1_1 + t163)), (x9_1), (wrap64 (x10_1 + 1)), (by first | rfl | (simp; done) | (simp [*]; done)), (by first | rfl | (simp; done) | (simp [*]; done)), H', ⟨by have := HK1.out; have := HJ4.out; have := HJ10.out; omega⟩, ⟨by (with_reducible repeat (first | apply Kd.R_alloc | apply Kd.R_drewN | apply Kd.R_drew)); exact HO_9.out⟩, ⟨by repeat (first | (with_reducible first | exact HB.out | apply below_alloc | apply pw_below_drewN | apply below_drew1) | exact HB.out)⟩⟩
              · rw [if_neg c9] at H
                exact absurd H (by simp)
            · rw [if_neg c8] at H
              exact absurd H (by simp)
          · replace c7 := Bool.eq_false_iff.mpr c7
            subst c7
            have H1 : (some x9_1) = some r := by rw [if_neg (show ¬ (false = true) by decide)] at H; exact H
            clear H
            have H := H1
            clear H1
            obtain rfl := Option.some.inj H
            go_wp2
            go_ret
            exact ⟨_, by first | rfl | (simp [errW_none, errW_some] <;> rfl) | (simp [*, errW_none, errW_some] <;> rfl), by (with_reducible repeat (first | apply Kd.R_alloc | apply Kd.R_drewN | apply Kd.R_drew)); exact HO_9.out, by repeat (first | (with_reducible first | exact HB.out | apply below_alloc | apply pw_below_drewN | apply below_drew1) | exact HB.out)⟩

end Go.Proofs.Ytaihajmdngoeiaa.F

-- A text of this session's own program (wip/myprint.sh over a changed print tool): functions and their walks
namespace Go.Proofs.Ytaihajmdngoeiaa.F
open Go.RowKit Go.Proofs.YtaihajmdngoeiaaW.PrintWords Go.Proofs.YtaihajmdngoeiaaW.PrintLast Go.Proofs.YtaihajmdngoeiaaW.PrintMore
attribute [local go_sem] max2_int min2_int max_two min_two max_three min_three max_four min_four   -- for this text's walks alone
set_option linter.unusedVariables false
set_option linter.unusedSimpArgs false

/-! ### monikerref1_Done: function 36 -/
mutual
def monikerref1_Done.l0 : Nat → List (S61) → List (S42) → List (S61) → Int → Int → Int → Int → Option ((List (S61)))
  | 0, _, _, _, _, _, _, _ => none
  | k + 1, x0, x1, x5, x6, x7, x8, x9 => if x9 < (x1.length : Int) then (monikerref1_Done.l1 k x0 x1 x5 x6 x7 x8 x9) else ((monikerref1_kept.f k x0 x8 x6 x7).bind fun t185 => (if x5.length + t185.length < 3518437208883 then (some (x5 ++ t185)) else (none)))
def monikerref1_Done.l1 : Nat → List (S61) → List (S42) → List (S61) → Int → Int → Int → Int → Option ((List (S61)))
  | 0, _, _, _, _, _, _, _ => none
  | k + 1, x0, x1, x5, x6, x7, x8, x9 => if (x0.length : Int) > 0 then (if 0 < (x0.length : Int) then ((monikerref1_Run_size.f ((rd_T61 x0 0).f0) ((rd_T61 x0 0).f1) ((rd_T61 x0 0).f2) ((rd_T61 x0 0).f3)).bind fun t192 => (if (wrap64 (x8 + t192)) < x6 then ((monikerref1_Run_size.f ((rd_T61 x0 0).f0) ((rd_T61 x0 0).f1) ((rd_T61 x0 0).f2) ((rd_T61 x0 0).f3)).bind fun t194 => (if 1 ≤ (x0.length : Int) then (monikerref1_Done.l1 k (x0.drop 1) x1 x5 x6 x7 (wrap64 (x8 + t194)) x9) else (none))) else (if 0 ≤ x9 then (if x9 < (x1.length : Int) then ((monikerref1_kept.f k x0 x8 x6 ((rd_T42 x1 x9).f0)).bind fun t201 => (if x5.length + t201.length < 3518437208883 then ((some (x5 ++ t201 : List (S61))).bind fun y204 => (if y204.length < 3518437208883 then (monikerref1_Done.l0 k x0 x1 (y204 ++ [(⟨false, 0, 0, (rd_T42 x1 x9).f2⟩ : S61)]) ((rd_T42 x1 x9).f1) x7 x8 (wrap64 (x9 + 1))) else (none))) else (none))) else (none)) else (none)))) else (none)) else (if 0 ≤ x9 then (if x9 < (x1.length : Int) then ((monikerref1_kept.f k x0 x8 x6 ((rd_T42 x1 x9).f0)).bind fun t213 => (if x5.length + t213.length < 3518437208883 then ((some (x5 ++ t213 : List (S61))).bind fun y216 => (if y216.length < 3518437208883 then (monikerref1_Done.l0 k x0 x1 (y216 ++ [(⟨false, 0, 0, (rd_T42 x1 x9).f2⟩ : S61)]) ((rd_T42 x1 x9).f1) x7 x8 (wrap64 (x9 + 1))) else (none))) else (none))) else (none)) else (none))
end
def monikerref1_Done.f (k : Nat) (l0 : List (S61)) (l1 : List (S42)) : Option ((List (S61))) := (monikerref1_Size.f k l0).bind fun t184 => (monikerref1_Done.l0 k l0 l1 ([] : List (S61)) 0 t184 0 0)
set_option maxHeartbeats 8000000 in
set_option maxRecDepth 100000 in
theorem monikerref1_Done.calls (k : Nat) (P0_ : Nat → Prop) (A0 : Option Addr) (c0 : Nat) (l0 : List (S61)) (A1 : Option Addr) (c1 : Nat) (l1 : List (S42)) (r : List (S61)) (w : World) (hs0 : Kd.V k61 61 w w.heap.size (fun k_ => P0_ k_) (.slice A0 l0.length c0) l0) (hr1 : Kd.C k42 w A1 l1.length l1) (hc1 : l1.length ≤ c1) (h : monikerref1_Done.f k l0 l1 = some r) :
    Calls Try.prog 36 #[.slice A0 l0.length c0, .slice A1 l1.length c1] w fun e w' => ∃ v0_ : Value, e = .returned (v0_) ∧ Kd.R k61 61 w' w.heap.size (fun k_ => (w.heap.size ≤ k_)) v0_ r ∧ Below w.heap.size w w' := by
  have hu61 := Try.underlying61
  have HO0 := Aside0.mk (show Kd.V k61 61 w w.heap.size (fun k_ => (P0_ k_ ∨ w.heap.size ≤ k_)) (.slice A0 l0.length c0) l0 from Kd.V_mono hs0 (fun k_ hk => .inl hk))
  have HR1 := Aside0.mk hr1
  have HC1 := Aside0.mk hc1
  clear hr1 hc1
  have HB := Aside0.mk (Below.refl w.heap.size w)
  have H : ((monikerref1_Size.f k l0).bind fun t184 => (monikerref1_Done.l0 k l0 l1 ([] : List (S61)) 0 t184 0 0)) = some r := h
  clear h
  replace H := Option.bind_eq_some_iff.mp H
  obtain ⟨t184, A30, H⟩ := H
  replace H : (monikerref1_Done.l0 k l0 l1 ([] : List (S61)) 0 t184 0 0) = some r := H
  have A3 := Aside0.mk A30
  clear A30
  have H' := Aside0.mk H
  clear H
  go_enter Try.func36, Try.ntmps36
  go_wp2_with (first | ((with_reducible refine gate_callee (f := 44) rfl ?_); refine goesL_ (some 11) rfl rfl Try.func44 (by kernel_rfl) rfl #[.slice A0 l0.length c0] rfl (by (try simp only [List.map_toArray, List.map_cons, List.map_nil]); first | done | rfl | (simp only [List.length_drop, List.length_take]; rfl)) ?_; (with_reducible refine (monikerref1_Size.calls k _ _ l0 t184 _ ?side1 ?side2 A3.out).mono ?_); (case side1 => repeat (first | exact (Kd.V_reads' HO0.out).2.2 | (with_reducible refine Kd.C_alloc ?_ _) | (with_reducible refine Kd.C_drewN ?_ _) | (with_reducible refine Kd.C_drew ?_))); (case side2 => exact (Kd.V_reads' HO0.out).2.1); rintro e w4 ⟨rfl, hb⟩; refine ⟨_, rfl, ?_⟩; have n0_ := Aside0.mk (Kd.V_below (by (with_reducible repeat (first | apply Kd.V_alloc | apply Kd.V_drewN | apply Kd.V_drew)); exact HO0.out) hb); have n1_ := Aside0.mk (below_step (by repeat (first | (with_reducible first | exact HB.out | apply below_alloc | apply pw_below_drewN | apply below_drew1) | exact HB.out)) hb); clear HO0; clear HB; have HO0 := n0_; have HB := n1_; clear n0_ n1_; (try clear hb); (try clear hb2); (try clear hk); (try clear hi)))
  go_loopg [0, 5, 6, 8, 9] k (fun kq v0 v5 v6 v8 v9 w' => ∃ (x0_1 : List (S61)) (x5_1 : List (S61)) (x6_1 : Int) (x8_1 : Int) (x9_1 : Int), v6 = .int .i64 x6_1 ∧ v8 = .int .i64 x8_1 ∧ v9 = .int .i64 x9_1 ∧ Aside0 (monikerref1_Done.l0 kq x0_1 l1 x5_1 x6_1 t184 x8_1 x9_1 = some r) ∧ Aside0 (kq ≤ k) ∧ Aside0 (Kd.V k61 61 w' w.heap.size (fun k_ => (P0_ k_ ∨ w.heap.size ≤ k_) ∧ some k_ ≠ (v5 : Value).ownBlock) v0 x0_1) ∧ Aside0 (Kd.R k61 61 w' w.heap.size (fun k_ => (w.heap.size ≤ k_)) v5 x5_1) ∧ Aside0 (Below w.heap.size w w'))
  case atStart => exact ⟨(l0), (([] : List (S61))), (0), (0), (0), (by first | rfl | (simp; done) | (simp [*]; done)), (by first | rfl | (simp; done) | (simp [*]; done)), (by first | rfl | (simp; done) | (simp [*]; done)), H', ⟨Nat.le_refl _⟩, ⟨by (with_reducible repeat (first | apply Kd.V_alloc | apply Kd.V_drewN | apply Kd.V_drew)); exact Kd.V_mono HO0.out (fun _ hk => ⟨hk, (by simp [Value.ownBlock])⟩)⟩, ⟨by first | exact Kd.R_nil _ _ _ _ _ | exact Kd.N_nil _ _ _ _ _ | exact Kd.V_nil _ _ _ _ _ | exact Kd.Q_nil _ _ _ _ _ | exact Kd.S_nil _ _ _ _ _⟩, ⟨by repeat (first | (with_reducible first | exact HB.out | apply below_alloc | apply pw_below_drewN | apply below_drew1) | exact HB.out)⟩⟩
  case round =>
    clear H'
    try clear c1
    try clear p2
    try clear c3
    try clear c4
    obtain ⟨x0_1, x5_1, x6_1, x8_1, x9_1, rfl, rfl, rfl, HA, HK1, HO_0, HO_5, HB⟩ := hrel
    cases gk with
    | zero => exact absurd HA.out (by simp [monikerref1_Done.l0])
    | succ k1 =>
      have H := HA.out
      clear HA
      simp only [monikerref1_Done.l0] at H
      by_cases c5 : x9_1 < (l1.length : Int)
      · rw [if_pos c5] at H
        have c5b0 : decide (x9_1 < (l1.length : Int)) = true := decide_eq_true c5
        clear c5
        have H' := Aside0.mk H
        clear H
        go_wp2
        go_loopg [0, 8] k1 (fun kq v0 v8 w' => ∃ (x0_2 : List (S61)) (x8_2 : Int), v8 = .int .i64 x8_2 ∧ Aside0 (monikerref1_Done.l1 kq x0_2 l1 x5_1 x6_1 t184 x8_2 x9_1 = some r) ∧ Aside0 (kq ≤ k1) ∧ Aside0 (Kd.V k61 61 w' w.heap.size (fun k_ => (P0_ k_ ∨ w.heap.size ≤ k_) ∧ some k_ ≠ (u5 : Value).ownBlock) v0 x0_2) ∧ Aside0 (Kd.R k61 61 w' w.heap.size (fun k_ => (w.heap.size ≤ k_)) u5 x5_1) ∧ Aside0 (Below w.heap.size w w'))
        case atStart => exact ⟨(x0_1), (x8_1), (by first | rfl | (simp; done) | (simp [*]; done)), H', ⟨Nat.le_refl _⟩, ⟨by (with_reducible repeat (first | apply Kd.V_alloc | apply Kd.V_drewN | apply Kd.V_drew)); exact HO_0.out⟩, ⟨by (with_reducible repeat (first | apply Kd.R_alloc | apply Kd.R_drewN | apply Kd.R_drew)); exact HO_5.out⟩, ⟨by repeat (first | (with_reducible first | exact HB.out | apply below_alloc | apply pw_below_drewN | apply below_drew1) | exact HB.out)⟩⟩
        case round =>
          clear H'
          try clear c1
          try clear p2
          try clear c3
          try clear c4
          try clear c5
          try clear c5b0
          try clear p2
          obtain ⟨x0_2, x8_2, rfl, HA, HK2, HO_0, HO_5, HB⟩ := hrel
          cases gk with
          | zero => exact absurd HA.out (by simp [monikerref1_Done.l1])
          | succ k2 =>
            have H := HA.out
            clear HA
            simp only [monikerref1_Done.l1] at H
            by_cases c6 : (x0_2.length : Int) > 0
            · rw [if_pos c6] at H
              have c6b0 : decide (0 < (x0_2.length : Int)) = true := decide_eq_true c6
              have c6b1 : decide (0 < x0_2.length) = true := decide_eq_true (by omega)
              clear c6
              by_cases c7 : 0 < (x0_2.length : Int)
              · rw [if_pos c7] at H
                have c7b0 : decide (0 < (x0_2.length : Int)) = true := decide_eq_true c7
                have c7b1 : decide (0 < x0_2.length) = true := decide_eq_true (by omega)
                clear c7
                replace H := Option.bind_eq_some_iff.mp H
                obtain ⟨t192, A80, H⟩ := H
                replace H : (if (wrap64 (x8_2 + t192)) < x6_1 then ((monikerref1_Run_size.f ((rd_T61 x0_2 0).f0) ((rd_T61 x0_2 0).f1) ((rd_T61 x0_2 0).f2) ((rd_T61 x0_2 0).f3)).bind fun t194 => (if 1 ≤ (x0_2.length : Int) then (monikerref1_Done.l1 k2 (x0_2.drop 1) l1 x5_1 x6_1 t184 (wrap64 (x8_2 + t194)) x9_1) else (none))) else (if 0 ≤ x9_1 then (if x9_1 < (l1.length : Int) then ((monikerref1_kept.f k2 x0_2 x8_2 x6_1 ((rd_T42 l1 x9_1).f0)).bind fun t201 => (if x5_1.length + t201.length < 3518437208883 then ((some (x5_1 ++ t201 : List (S61))).bind fun y204 => (if y204.length < 3518437208883 then (monikerref1_Done.l0 k2 x0_2 l1 (y204 ++ [(⟨false, 0, 0, (rd_T42 l1 x9_1).f2⟩ : S61)]) ((rd_T42 l1 x9_1).f1) t184 x8_2 (wrap64 (x9_1 + 1))) else (none))) else (none))) else (none)) else (none))) = some r := H
                have A8 := Aside0.mk A80
                clear A80
                by_cases c9 : (wrap64 (x8_2 + t192)) < x6_1
                · rw [if_pos c9] at H
                  have c9b0 : decide ((wrap64 (x8_2 + t192)) < x6_1) = true := decide_eq_true c9
                  clear c9
                  replace H := Option.bind_eq_some_iff.mp H
                  obtain ⟨t194, A100, H⟩ := H
                  replace H : (if 1 ≤ (x0_2.length : Int) then (monikerref1_Done.l1 k2 (x0_2.drop 1) l1 x5_1 x6_1 t184 (wrap64 (x8_2 + t194)) x9_1) else (none)) = some r := H
                  have A10 := Aside0.mk A100
                  clear A100
                  by_cases c11 : 1 ≤ (x0_2.length : Int)
                  · rw [if_pos c11] at H
                    have c11b0 := eq_true c11
                    have c11b1 : decide (1 ≤ (x0_2.length : Int)) = true := decide_eq_true c11
                    clear c11
                    obtain ⟨y195, hy195⟩ : ∃ y_ : List (S61), y_ = (x0_2.drop 1) := ⟨_, rfl⟩
                    replace H : (monikerref1_Done.l1 k2 y195 l1 x5_1 x6_1 t184 (wrap64 (x8_2 + t194)) x9_1) = some r := by first | (rw [hy195]; with_reducible exact H) | (have H2_ := (Option.bind_some _ _).symm.trans H; rw [hy195]; with_reducible exact H2_) | (have H2_ := (Option.bind_some _ _).symm.trans H; with_reducible exact H2_) | with_reducible exact H | (rw [hy195]; exact H) | exact H
                    have Ny195 := Aside0.mk hy195
                    clear hy195
                    have H' := Aside0.mk H
                    clear H
                    obtain ⟨Ao12, co12, eo12⟩ := Kd.V_slice HO_0.out
                    subst eo12
                    have p191 : 0 ≤ (0 : Int) := (by omega)
                    have q191 : 0 < (x0_2.length : Int) := of_decide_eq_true (by first | (with_reducible assumption) | assumption)
                    obtain ⟨ad191, e191, hx191_0, hx191_1, hx191_2, hx191_3⟩ := at_T61 (Kd.V_reads' HO_0.out).2.2 0 p191 q191
                    cases e191
                    have qi191 : (0 < x0_2.length) = True := eq_true (by omega)
                    (try rw [show ((0 : Int)).toNat = 0 from rfl] at hx191_0)
                    (try rw [show 0 * 4 = 0 from rfl] at hx191_0)
                    (try rw [Addr.add_zero'] at hx191_0)
                    (try rw [show ((0 : Int)).toNat = 0 from rfl] at hx191_1)
                    (try rw [show 0 * 4 = 0 from rfl] at hx191_1)
                    (try rw [Addr.add_zero'] at hx191_1)
                    (try rw [show ((0 : Int)).toNat = 0 from rfl] at hx191_2)
                    (try rw [show 0 * 4 = 0 from rfl] at hx191_2)
                    (try rw [Addr.add_zero'] at hx191_2)
                    (try rw [show ((0 : Int)).toNat = 0 from rfl] at hx191_3)
                    (try rw [show 0 * 4 = 0 from rfl] at hx191_3)
                    (try rw [Addr.add_zero'] at hx191_3)
                    replace p191 := eq_true p191
                    replace q191 := eq_true q191
                    go_wp2_with (first | (go_at_call 45; (with_reducible refine (monikerref1_Run_size.calls ((rd_T61 x0_2 0).f0) ((rd_T61 x0_2 0).f1) ((rd_T61 x0_2 0).f2) ((rd_T61 x0_2 0).f3) t192 _ A8.out).mono ?_); rintro e w13 ⟨rfl, hb⟩; have n0_ := Aside0.mk (Kd.V_below (by (with_reducible repeat (first | apply Kd.V_alloc | apply Kd.V_drewN | apply Kd.V_drew)); exact HO_0.out) hb); have n1_ := Aside0.mk (Kd.R_below (by (with_reducible repeat (first | apply Kd.R_alloc | apply Kd.R_drewN | apply Kd.R_drew)); exact HO_5.out) hb); have n2_ := Aside0.mk (below_step (by repeat (first | (with_reducible first | exact HB.out | apply below_alloc | apply pw_below_drewN | apply below_drew1) | exact HB.out)) hb); clear HO_0; clear HO_5; clear HB; have HO_0 := n0_; have HO_5 := n1_; have HB := n2_; clear n0_ n1_ n2_; (try clear hb); (try clear hb2); (try clear hk); (try clear hi); have p193 : 0 ≤ (0 : Int) := (by omega); have q193 : 0 < (x0_2.length : Int) := of_decide_eq_true (by first | (with_reducible assumption) | assumption); obtain ⟨ad193, e193, hx193_0, hx193_1, hx193_2, hx193_3⟩ := at_T61 (Kd.V_reads' HO_0.out).2.2 0 p193 q193; obtain rfl : ad191 = ad193 := (by injection e193); have qi193 : (0 < x0_2.length) = True := eq_true (by omega); (try rw [show ((0 : Int)).toNat = 0 from rfl] at hx193_0); (try rw [show 0 * 4 = 0 from rfl] at hx193_0); (try rw [Addr.add_zero'] at hx193_0); (try rw [show ((0 : Int)).toNat = 0 from rfl] at hx193_1); (try rw [show 0 * 4 = 0 from rfl] at hx193_1); (try rw [Addr.add_zero'] at hx193_1); (try rw [show ((0 : Int)).toNat = 0 from rfl] at hx193_2); (try rw [show 0 * 4 = 0 from rfl] at hx193_2); (try rw [Addr.add_zero'] at hx193_2); (try rw [show ((0 : Int)).toNat = 0 from rfl] at hx193_3); (try rw [show 0 * 4 = 0 from rfl] at hx193_3); (try rw [Addr.add_zero'] at hx193_3); replace p193 := eq_true p193; replace q193 := eq_true q193) | ((with_reducible refine gate_callee (f := 45) rfl ?_); refine goesL_ (some 35) rfl rfl Try.func45 (by kernel_rfl) rfl #[.agg #[.bool ((rd_T61 x0_2 0).f0), .int .i64 ((rd_T61 x0_2 0).f1), .int .i64 ((rd_T61 x0_2 0).f2), .string ((rd_T61 x0_2 0).f3)]] rfl (by (try simp only [List.map_toArray, List.map_cons, List.map_nil]); first | done | rfl | (simp only [List.length_drop, List.length_take]; rfl)) ?_; (with_reducible refine (monikerref1_Run_size.calls ((rd_T61 x0_2 0).f0) ((rd_T61 x0_2 0).f1) ((rd_T61 x0_2 0).f2) ((rd_T61 x0_2 0).f3) t194 _ A10.out).mono ?_); rintro e w14 ⟨rfl, hb⟩; refine ⟨_, rfl, ?_⟩; have n0_ := Aside0.mk (Kd.V_below (by (with_reducible repeat (first | apply Kd.V_alloc | apply Kd.V_drewN | apply Kd.V_drew)); exact HO_0.out) hb); have n1_ := Aside0.mk (Kd.R_below (by (with_reducible repeat (first | apply Kd.R_alloc | apply Kd.R_drewN | apply Kd.R_drew)); exact HO_5.out) hb); have n2_ := Aside0.mk (below_step (by repeat (first | (with_reducible first | exact HB.out | apply below_alloc | apply pw_below_drewN | apply below_drew1) | exact HB.out)) hb); clear HO_0; clear HO_5; clear HB; have HO_0 := n0_; have HO_5 := n1_; have HB := n2_; clear n0_ n1_ n2_; (try clear hb); (try clear hb2); (try clear hk); (try clear hi); have q15 : (1 : Int) ≤ ((x0_2.length : Int) : Int) := of_decide_eq_true (by first | (with_reducible assumption) | assumption); obtain ⟨i015, hi015, _, hsz15, _⟩ := info_parts info61; have hroom15 : x0_2.length ≤ co12 := (Kd.V_reads' HO_0.out).2.1; have hC15 : Kd.F k61 _ _ (some ad191) x0_2.length x0_2 := (Kd.V_at (base := w.heap.size) HO_0.out).2.2; have hcut15 := cut_from (P := Try.prog) 50 61 .i64 Try.underlying50 hi015 4 hsz15 (some ad191) x0_2.length co12 1 (by omega) q15; have hr15 := Kd.F_cut (m := (1 : Int).toNat) (c := co12) hC15 (by omega) hroom15; obtain ⟨A15, hA15⟩ : ∃ A_, A_ = (if co12 = (1 : Int).toNat then (some ad191) else ((some ad191) : Option Addr).map (·.add ((1 : Int).toNat * 4))) := ⟨_, rfl⟩; obtain ⟨c15, hc15⟩ : ∃ c_, c_ = co12 - (1 : Int).toNat := ⟨_, rfl⟩; have hy15 : y195.length = x0_2.length - (1 : Int).toNat := (by rw [Ny195.out, List.length_drop] <;> omega); rw [show (x0_2).drop (1 : Int).toNat = y195 from Ny195.out.symm] at hr15; replace hr15 : Kd.F k61 _ _ A15 y195.length y195 := (by rw [hA15]; exact hr15); rw [← hy15, ← hA15, ← hc15] at hcut15; have HO199 := Aside0.mk (show Kd.V k61 61 _ w.heap.size _ (.slice A15 y195.length c15) y195 from Kd.V_mk (by rw [hy15, hc15]; exact Nat.sub_le_sub_right hroom15 _) hr15); have HC199 := Aside0.mk (show y195.length ≤ c15 from by rw [hy15, hc15]; exact Nat.sub_le_sub_right hroom15 _); clear hr15 hC15 hroom15 hi015 hsz15 hc15; have KY15 := Aside0.mk hy15; have KA15 := Aside0.mk hA15; clear hy15 hA15; replace q15 := eq_true q15))
                    go_roundg k2
                    case measure => have := HK1.out; have := HK2.out; omega
                    case rel => exact ⟨(y195), (wrap64 (x8_2 + t194)), (by first | rfl | (simp; done) | (simp [*]; done)), H', ⟨by have := HK1.out; have := HK2.out; omega⟩, ⟨by (with_reducible repeat (first | apply Kd.V_alloc | apply Kd.V_drewN | apply Kd.V_drew)); exact HO199.out⟩, ⟨by (with_reducible repeat (first | apply Kd.R_alloc | apply Kd.R_drewN | apply Kd.R_drew)); exact HO_5.out⟩, ⟨by repeat (first | (with_reducible first | exact HB.out | apply below_alloc | apply pw_below_drewN | apply below_drew1) | exact HB.out)⟩⟩
                  · rw [if_neg c11] at H
                    exact absurd H (by simp)
                · rw [if_neg c9] at H
                  have c9b0 : decide ((wrap64 (x8_2 + t192)) < x6_1) = false := decide_eq_false c9
                  clear c9
                  by_cases c16 : 0 ≤ x9_1
                  · rw [if_pos c16] at H
                    have c16b0 : decide (0 ≤ x9_1) = true := decide_eq_true c16
                    clear c16
                    by_cases c17 : x9_1 < (l1.length : Int)
                    · rw [if_pos c17] at H
                      have c17b0 : decide (x9_1 < (l1.length : Int)) = true := decide_eq_true c17
                      clear c17
                      replace H := Option.bind_eq_some_iff.mp H
                      obtain ⟨t201, A180, H⟩ := H
                      replace H : (if x5_1.length + t201.length < 3518437208883 then ((some (x5_1 ++ t201 : List (S61))).bind fun y204 => (if y204.length < 3518437208883 then (monikerref1_Done.l0 k2 x0_2 l1 (y204 ++ [(⟨false, 0, 0, (rd_T42 l1 x9_1).f2⟩ : S61)]) ((rd_T42 l1 x9_1).f1) t184 x8_2 (wrap64 (x9_1 + 1))) else (none))) else (none)) = some r := H
                      have A18 := Aside0.mk A180
                      clear A180
                      by_cases c19 : x5_1.length + t201.length < 3518437208883
                      · rw [if_pos c19] at H
                        have LMc19 := Aside0.mk c19
                        clear c19
                        obtain ⟨y204, hy204⟩ : ∃ y_ : List (S61), y_ = (x5_1 ++ t201) := ⟨_, rfl⟩
                        replace H : (if y204.length < 3518437208883 then (monikerref1_Done.l0 k2 x0_2 l1 (y204 ++ [(⟨false, 0, 0, (rd_T42 l1 x9_1).f2⟩ : S61)]) ((rd_T42 l1 x9_1).f1) t184 x8_2 (wrap64 (x9_1 + 1))) else (none)) = some r := by first | (rw [hy204]; with_reducible exact H) | (have H2_ := (Option.bind_some _ _).symm.trans H; rw [hy204]; with_reducible exact H2_) | (have H2_ := (Option.bind_some _ _).symm.trans H; with_reducible exact H2_) | with_reducible exact H | (rw [hy204]; exact H) | exact H
                        have Ny204 := Aside0.mk hy204
                        clear hy204
                        by_cases c20 : y204.length < 3518437208883
                        · rw [if_pos c20] at H
                          have LMc20 := Aside0.mk c20
                          clear c20
                          obtain ⟨y208, hy208⟩ : ∃ y_ : List (S61), y_ = (y204 ++ [(⟨false, 0, 0, (rd_T42 l1 x9_1).f2⟩ : S61)]) := ⟨_, rfl⟩
                          replace H : (monikerref1_Done.l0 k2 x0_2 l1 y208 ((rd_T42 l1 x9_1).f1) t184 x8_2 (wrap64 (x9_1 + 1))) = some r := by first | (rw [hy208]; with_reducible exact H) | (have H2_ := (Option.bind_some _ _).symm.trans H; rw [hy208]; with_reducible exact H2_) | (have H2_ := (Option.bind_some _ _).symm.trans H; with_reducible exact H2_) | with_reducible exact H | (rw [hy208]; exact H) | exact H
                          have Ny208 := Aside0.mk hy208
                          clear hy208
                          have H' := Aside0.mk H
                          clear H
                          obtain ⟨Ao21, co21, eo21⟩ := Kd.V_slice HO_0.out
                          subst eo21
                          have p191 : 0 ≤ (0 : Int) := (by omega)
                          have q191 : 0 < (x0_2.length : Int) := of_decide_eq_true (by first | (with_reducible assumption) | assumption)
                          obtain ⟨ad191, e191, hx191_0, hx191_1, hx191_2, hx191_3⟩ := at_T61 (Kd.V_reads' HO_0.out).2.2 0 p191 q191
                          cases e191
                          have qi191 : (0 < x0_2.length) = True := eq_true (by omega)
                          (try rw [show ((0 : Int)).toNat = 0 from rfl] at hx191_0)
                          (try rw [show 0 * 4 = 0 from rfl] at hx191_0)
                          (try rw [Addr.add_zero'] at hx191_0)
                          (try rw [show ((0 : Int)).toNat = 0 from rfl] at hx191_1)
                          (try rw [show 0 * 4 = 0 from rfl] at hx191_1)
                          (try rw [Addr.add_zero'] at hx191_1)
                          (try rw [show ((0 : Int)).toNat = 0 from rfl] at hx191_2)
                          (try rw [show 0 * 4 = 0 from rfl] at hx191_2)
                          (try rw [Addr.add_zero'] at hx191_2)
                          (try rw [show ((0 : Int)).toNat = 0 from rfl] at hx191_3)
                          (try rw [show 0 * 4 = 0 from rfl] at hx191_3)
                          (try rw [Addr.add_zero'] at hx191_3)
                          replace p191 := eq_true p191
                          replace q191 := eq_true q191
                          go_wp2_with (first | (go_at_call 45; (with_reducible refine (monikerref1_Run_size.calls ((rd_T61 x0_2 0).f0) ((rd_T61 x0_2 0).f1) ((rd_T61 x0_2 0).f2) ((rd_T61 x0_2 0).f3) t192 _ A8.out).mono ?_); rintro e w22 ⟨rfl, hb⟩; have n0_ := Aside0.mk (Kd.V_below (by (with_reducible repeat (first | apply Kd.V_alloc | apply Kd.V_drewN | apply Kd.V_drew)); exact HO_0.out) hb); have n1_ := Aside0.mk (Kd.R_below (by (with_reducible repeat (first | apply Kd.R_alloc | apply Kd.R_drewN | apply Kd.R_drew)); exact HO_5.out) hb); have n2_ := Aside0.mk (below_step (by repeat (first | (with_reducible first | exact HB.out | apply below_alloc | apply pw_below_drewN | apply below_drew1) | exact HB.out)) hb); clear HO_0; clear HO_5; clear HB; have HO_0 := n0_; have HO_5 := n1_; have HB := n2_; clear n0_ n1_ n2_; (try clear hb); (try clear hb2); (try clear hk); (try clear hi); have p200 : 0 ≤ (x9_1 : Int) := of_decide_eq_true (by first | (with_reducible assumption) | assumption); have q200 : x9_1 < (l1.length : Int) := of_decide_eq_true (by first | (with_reducible assumption) | assumption); obtain ⟨ad200, e200, hx200_0, hx200_1, hx200_2⟩ := at_T42 HR1.out x9_1 p200 q200; cases e200; replace hx200_0 := (HB.out.cell (World.block_lt_of_cell? w _ hx200_0)).trans hx200_0; replace hx200_1 := (HB.out.cell (World.block_lt_of_cell? w _ hx200_1)).trans hx200_1; replace hx200_2 := (HB.out.cell (World.block_lt_of_cell? w _ hx200_2)).trans hx200_2; replace p200 := eq_true p200; replace q200 := eq_true q200) | ((with_reducible refine gate_callee (f := 46) rfl ?_); refine goesL_ (some 48) rfl rfl Try.func46 (by kernel_rfl) rfl #[.slice (some ad191) x0_2.length co21, .int .i64 x8_2, .int .i64 x6_1, .int .i64 ((rd_T42 l1 x9_1).f0)] rfl (by (try simp only [List.map_toArray, List.map_cons, List.map_nil]); first | done | rfl | (simp only [List.length_drop, List.length_take]; rfl)) ?_; (with_reducible refine (monikerref1_kept.calls k2 _ _ x0_2 x8_2 x6_1 ((rd_T42 l1 x9_1).f0) t201 _ ?side1 ?side2 A18.out).mono ?_); (case side1 => repeat (first | exact (Kd.V_reads' HO_0.out).2.2 | (with_reducible refine Kd.C_alloc ?_ _) | (with_reducible refine Kd.C_drewN ?_ _) | (with_reducible refine Kd.C_drew ?_))); (case side2 => exact (Kd.V_reads' HO_0.out).2.1); rintro e w23 ⟨v202, rfl, ho0, hb⟩; refine ⟨_, rfl, ?_⟩; have n0_ := Aside0.mk (Kd.V_elder' (by (with_reducible repeat (first | apply Kd.V_alloc | apply Kd.V_drewN | apply Kd.V_drew)); exact HO_0.out) (Kd.R_base ho0) hb); have n1_ := Aside0.mk (Kd.R_elder' (by (with_reducible repeat (first | apply Kd.R_alloc | apply Kd.R_drewN | apply Kd.R_drew)); exact HO_5.out) (Kd.R_base ho0) hb); have n2_ := Aside0.mk (Kd.R_lower (Kd.R_new' (Kd.R_newM (M := fun k_ => (w.heap.size ≤ k_)) ho0 (below_size (by repeat (first | (with_reducible first | exact HB.out | apply below_alloc | apply pw_below_drewN | apply below_drew1) | exact HB.out))) (fun k_ h_ => h_)) (Kd.R_lt (by (with_reducible repeat (first | apply Kd.R_alloc | apply Kd.R_drewN | apply Kd.R_drew)); exact HO_5.out))) (below_size (by repeat (first | (with_reducible first | exact HB.out | apply below_alloc | apply pw_below_drewN | apply below_drew1) | exact HB.out)))); have n3_ := Aside0.mk (below_step (by repeat (first | (with_reducible first | exact HB.out | apply below_alloc | apply pw_below_drewN | apply below_drew1) | exact HB.out)) hb); clear HO_0; clear HO_5; clear HB; have HO_0 := n0_; have HO_5 := n1_; have HO203 := n2_; have HB := n3_; clear n0_ n1_ n2_ n3_; (try clear hb); (try clear hb2); (try clear hk); (try clear hi); (try clear ho0); obtain ⟨Ao25, co25, eo25⟩ := Kd.R_slice HO203.out; subst eo25) | ((with_reducible refine gate_builtin (b := .append) (xs := #[.tmp 39, .tmp 48]) rfl ?_); at_builtin; refine Kd.R_append_rows k61 (w0 := w) w.heap.size rfl (.tmp 39) (.tmp 48) 50 61 (.agg #[(.bool false), (.int .i64 0), (.int .i64 0), (.string ⟨#[]⟩)]) 40 rfl Try.underlying50 info61 rfl (by decide) (by omega) u5 x5_1 t201 _ _ _ (fun k_ => (w.heap.size ≤ k_) ∧ some k_ ≠ (.slice Ao25 t201.length co25 : Value).ownBlock) (fun _ => False) rfl rfl ?aO ?aR (fun _ _ h => h) (fun _ h => h.elim) ?aF ?aB ?aS ?aL ?_; (case aR => repeat (first | exact (Kd.R_reads' HO203.out).2.2 | (with_reducible refine Kd.C_alloc ?_ _) | (with_reducible refine Kd.C_drewN ?_ _) | (with_reducible refine Kd.C_drew ?_))); (case aB => exact (by repeat (first | (with_reducible first | exact HB.out | apply below_alloc | apply pw_below_drewN | apply below_drew1) | exact HB.out))); (case aF => exact (fun k_ hk => ⟨(Nat.le_trans (below_size (by repeat (first | (with_reducible first | exact HB.out | apply below_alloc | apply pw_below_drewN | apply below_drew1) | exact HB.out))) hk), Kd.fresh' (Kd.R_lt (by (with_reducible repeat (first | apply Kd.R_alloc | apply Kd.R_drewN | apply Kd.R_drew)); exact HO203.out)) k_ hk⟩)); (case aO => exact (by (with_reducible repeat (first | apply Kd.R_alloc | apply Kd.R_drewN | apply Kd.R_drew)); exact HO_5.out)); (case aS => exact (below_size (by repeat (first | (with_reducible first | exact HB.out | apply below_alloc | apply pw_below_drewN | apply below_drew1) | exact HB.out)))); (case aL => have := LMc19.out; omega); intro v205 w24 ho hb hg hat; rw [← Ny204.out] at ho; have n0_ := Aside0.mk (Kd.V_afterv (ok := (fun k_ => (P0_ k_ ∨ w.heap.size ≤ k_) ∧ some k_ ≠ (.slice Ao25 t201.length co25 : Value).ownBlock)) (by (with_reducible repeat (first | apply Kd.V_alloc | apply Kd.V_drewN | apply Kd.V_drew)); exact Kd.V_mono HO_0.out (fun _ hk => ⟨⟨hk.1.1, hk.2⟩, hk.1.2⟩)) hg hat); have n1_ := Aside0.mk (Kd.R_after (ok := (fun k_ => (w.heap.size ≤ k_))) (by (with_reducible repeat (first | apply Kd.R_alloc | apply Kd.R_drewN | apply Kd.R_drew)); exact Kd.R_mono HO203.out (fun _ hk => ⟨hk.1.1, hk.2⟩)) hg hat); have n2_ := Aside0.mk (hb); have n3_ := Aside0.mk (ho); clear HO_0; clear HO203; clear HB; clear HO_5; have HO_0 := n0_; have HO203 := n1_; have HB := n2_; have HO206 := n3_; clear n0_ n1_ n2_ n3_; clear ho hb hg hat; have p207 : 0 ≤ (x9_1 : Int) := of_decide_eq_true (by first | (with_reducible assumption) | assumption); have q207 : x9_1 < (l1.length : Int) := of_decide_eq_true (by first | (with_reducible assumption) | assumption); obtain ⟨ad207, e207, hx207_0, hx207_1, hx207_2⟩ := at_T42 HR1.out x9_1 p207 q207; obtain rfl : ad200 = ad207 := (by injection e207); replace hx207_0 := (HB.out.cell (World.block_lt_of_cell? w _ hx207_0)).trans hx207_0; replace hx207_1 := (HB.out.cell (World.block_lt_of_cell? w _ hx207_1)).trans hx207_1; replace hx207_2 := (HB.out.cell (World.block_lt_of_cell? w _ hx207_2)).trans hx207_2; replace p207 := eq_true p207; replace q207 := eq_true q207) | ((with_reducible refine gate_builtin (b := .append) (xs := #[.tmp 50, .tmp 57]) rfl ?_); at_builtin; refine Kd.R_append k61 (w0 := w) w.heap.size rfl (.tmp 50) (.tmp 57) 50 61 (.agg #[(.bool false), (.int .i64 0), (.int .i64 0), (.string ⟨#[]⟩)]) 40 rfl Try.underlying50 info61 rfl (by decide) (by omega) v205 y204 (⟨false, 0, 0, (rd_T42 l1 x9_1).f2⟩ : S61) [.bool false, .int .i64 0, .int .i64 0, .string ((rd_T42 l1 x9_1).f2)] (fun k_ => (w.heap.size ≤ k_) ∧ some k_ ≠ (.slice Ao25 t201.length co25 : Value).ownBlock) (fun _ => False) rfl rfl ?aP (fun _ hk => hk.elim) ?aF ?aO ?aB ?aS ?aL ?_; (case aP => exact k61_mkM _ _ _ (⟨false, 0, 0, (rd_T42 l1 x9_1).f2⟩ : S61)); (case aB => exact (by repeat (first | (with_reducible first | exact HB.out | apply below_alloc | apply pw_below_drewN | apply below_drew1) | exact HB.out))); (case aF => exact (fun k_ hk => ⟨(Nat.le_trans (below_size (by repeat (first | (with_reducible first | exact HB.out | apply below_alloc | apply pw_below_drewN | apply below_drew1) | exact HB.out))) hk), Kd.fresh' (Kd.R_lt (by (with_reducible repeat (first | apply Kd.R_alloc | apply Kd.R_drewN | apply Kd.R_drew)); exact HO203.out)) k_ hk⟩)); (case aO => exact (by (with_reducible repeat (first | apply Kd.R_alloc | apply Kd.R_drewN | apply Kd.R_drew)); exact HO206.out)); (case aS => exact (below_size (by repeat (first | (with_reducible first | exact HB.out | apply below_alloc | apply pw_below_drewN | apply below_drew1) | exact HB.out)))); (case aL => have := LMc20.out; omega); intro v209 w26 ho hb hg hat; rw [← Ny208.out] at ho; have n0_ := Aside0.mk (Kd.V_afterv (ok := (fun k_ => (P0_ k_ ∨ w.heap.size ≤ k_) ∧ some k_ ≠ (.slice Ao25 t201.length co25 : Value).ownBlock)) (by (with_reducible repeat (first | apply Kd.V_alloc | apply Kd.V_drewN | apply Kd.V_drew)); exact HO_0.out) hg hat); have n1_ := Aside0.mk (Kd.R_after (ok := (fun k_ => (w.heap.size ≤ k_))) (by (with_reducible repeat (first | apply Kd.R_alloc | apply Kd.R_drewN | apply Kd.R_drew)); exact HO203.out) hg hat); have n2_ := Aside0.mk (hb); have n3_ := Aside0.mk (ho); clear HO_0; clear HO203; clear HB; clear HO206; have HO_0 := n0_; have HO203 := n1_; have HB := n2_; have HO210 := n3_; clear n0_ n1_ n2_ n3_; clear ho hb hg hat; have p211 : 0 ≤ (x9_1 : Int) := of_decide_eq_true (by first | (with_reducible assumption) | assumption); have q211 : x9_1 < (l1.length : Int) := of_decide_eq_true (by first | (with_reducible assumption) | assumption); obtain ⟨ad211, e211, hx211_0, hx211_1, hx211_2⟩ := at_T42 HR1.out x9_1 p211 q211; obtain rfl : ad200 = ad211 := (by injection e211); replace hx211_0 := (HB.out.cell (World.block_lt_of_cell? w _ hx211_0)).trans hx211_0; replace hx211_1 := (HB.out.cell (World.block_lt_of_cell? w _ hx211_1)).trans hx211_1; replace hx211_2 := (HB.out.cell (World.block_lt_of_cell? w _ hx211_2)).trans hx211_2; replace p211 := eq_true p211; replace q211 := eq_true q211))
                          go_roundg k2
                          case measure => have := HK1.out; have := HK2.out; omega
                          case rel => exact ⟨(x0_2), (y208), ((rd_T42 l1 x9_1).f1), (x8_2), (wrap64 (x9_1 + 1)), (by first | rfl | (simp; done) | (simp [*]; done)), (by first | rfl | (simp; done) | (simp [*]; done)), (by first | rfl | (simp; done) | (simp [*]; done)), H', ⟨by have := HK1.out; have := HK2.out; omega⟩, ⟨by (with_reducible repeat (first | apply Kd.V_alloc | apply Kd.V_drewN | apply Kd.V_drew)); exact Kd.V_mono HO_0.out (fun _ hk => ⟨hk.1.1, hk.2⟩)⟩, ⟨by (with_reducible repeat (first | apply Kd.R_alloc | apply Kd.R_drewN | apply Kd.R_drew)); exact Kd.R_mono HO210.out (fun _ hk => hk.1)⟩, ⟨by repeat (first | (with_reducible first | exact HB.out | apply below_alloc | apply pw_below_drewN | apply below_drew1) | exact HB.out)⟩⟩
                        · rw [if_neg c20] at H
                          exact absurd H (by simp)
                      · rw [if_neg c19] at H
                        exact absurd H (by simp)
                    · rw [if_neg c17] at H
                      exact absurd H (by simp)
                  · rw [if_neg c16] at H
                    exact absurd H (by simp)
              · rw [if_neg c7] at H
                exact absurd H (by simp)
            · rw [if_neg c6] at H
              have c6b0 : decide (0 < (x0_2.length : Int)) = false := decide_eq_false c6
              have c6b1 : decide (0 < x0_2.length) = false := decide_eq_false (by omega)
              clear c6
              by_cases c27 : 0 ≤ x9_1
              · rw [if_pos c27] at H
                have c27b0 : decide (0 ≤ x9_1) = true := decide_eq_true c27
                clear c27
                by_cases c28 : x9_1 < (l1.length : Int)
                · rw [if_pos c28] at H
                  have c28b0 : decide (x9_1 < (l1.length : Int)) = true := decide_eq_true c28
                  clear c28
                  replace H := Option.bind_eq_some_iff.mp H
                  obtain ⟨t213, A290, H⟩ := H
                  replace H : (if x5_1.length + t213.length < 3518437208883 then ((some (x5_1 ++ t213 : List (S61))).bind fun y216 => (if y216.length < 3518437208883 then (monikerref1_Done.l0 k2 x0_2 l1 (y216 ++ [(⟨false, 0, 0, (rd_T42 l1 x9_1).f2⟩ : S61)]) ((rd_T42 l1 x9_1).f1) t184 x8_2 (wrap64 (x9_1 + 1))) else (none))) else (none)) = some r := H
                  have A29 := Aside0.mk A290
                  clear A290
                  by_cases c30 : x5_1.length + t213.length < 3518437208883
                  · rw [if_pos c30] at H
                    have LMc30 := Aside0.mk c30
                    clear c30
                    obtain ⟨y216, hy216⟩ : ∃ y_ : List (S61), y_ = (x5_1 ++ t213) := ⟨_, rfl⟩
                    replace H : (if y216.length < 3518437208883 then (monikerref1_Done.l0 k2 x0_2 l1 (y216 ++ [(⟨false, 0, 0, (rd_T42 l1 x9_1).f2⟩ : S61)]) ((rd_T42 l1 x9_1).f1) t184 x8_2 (wrap64 (x9_1 + 1))) else (none)) = some r := by first | (rw [hy216]; with_reducible exact H) | (have H2_ := (Option.bind_some _ _).symm.trans H; rw [hy216]; with_reducible exact H2_) | (have H2_ := (Option.bind_some _ _).symm.trans H; with_reducible exact H2_) | with_reducible exact H | (rw [hy216]; exact H) | exact H
                    have Ny216 := Aside0.mk hy216
                    clear hy216
                    by_cases c31 : y216.length < 3518437208883
                    · rw [if_pos c31] at H
                      have LMc31 := Aside0.mk c31
                      clear c31
                      obtain ⟨y220, hy220⟩ : ∃ y_ : List (S61), y_ = (y216 ++ [(⟨false, 0, 0, (rd_T42 l1 x9_1).f2⟩ : S61)]) := ⟨_, rfl⟩
                      replace H : (monikerref1_Done.l0 k2 x0_2 l1 y220 ((rd_T42 l1 x9_1).f1) t184 x8_2 (wrap64 (x9_1 + 1))) = some r := by first | (rw [hy220]; with_reducible exact H) | (have H2_ := (Option.bind_some _ _).symm.trans H; rw [hy220]; with_reducible exact H2_) | (have H2_ := (Option.bind_some _ _).symm.trans H; with_reducible exact H2_) | with_reducible exact H | (rw [hy220]; exact H) | exact H
                      have Ny220 := Aside0.mk hy220
                      clear hy220
                      have H' := Aside0.mk H
                      clear H
                      obtain ⟨Ao32, co32, eo32⟩ := Kd.V_slice HO_0.out
                      subst eo32
                      have p212 : 0 ≤ (x9_1 : Int) := of_decide_eq_true (by first | (with_reducible assumption) | assumption)
                      have q212 : x9_1 < (l1.length : Int) := of_decide_eq_true (by first | (with_reducible assumption) | assumption)
                      obtain ⟨ad212, e212, hx212_0, hx212_1, hx212_2⟩ := at_T42 HR1.out x9_1 p212 q212
                      cases e212
                      replace hx212_0 := (HB.out.cell (World.block_lt_of_cell? w _ hx212_0)).trans hx212_0
                      replace hx212_1 := (HB.out.cell (World.block_lt_of_cell? w _ hx212_1)).trans hx212_1
                      replace hx212_2 := (HB.out.cell (World.block_lt_of_cell? w _ hx212_2)).trans hx212_2
                      replace p212 := eq_true p212
                      replace q212 := eq_true q212
                      go_wp2_with (first | ((with_reducible refine gate_callee (f := 46) rfl ?_); refine goesL_ (some 48) rfl rfl Try.func46 (by kernel_rfl) rfl #[.slice Ao32 x0_2.length co32, .int .i64 x8_2, .int .i64 x6_1, .int .i64 ((rd_T42 l1 x9_1).f0)] rfl (by (try simp only [List.map_toArray, List.map_cons, List.map_nil]); first | done | rfl | (simp only [List.length_drop, List.length_take]; rfl)) ?_; (with_reducible refine (monikerref1_kept.calls k2 _ _ x0_2 x8_2 x6_1 ((rd_T42 l1 x9_1).f0) t213 _ ?side1 ?side2 A29.out).mono ?_); (case side1 => repeat (first | exact (Kd.V_reads' HO_0.out).2.2 | (with_reducible refine Kd.C_alloc ?_ _) | (with_reducible refine Kd.C_drewN ?_ _) | (with_reducible refine Kd.C_drew ?_))); (case side2 => exact (Kd.V_reads' HO_0.out).2.1); rintro e w33 ⟨v214, rfl, ho0, hb⟩; refine ⟨_, rfl, ?_⟩; have n0_ := Aside0.mk (Kd.V_elder' (by (with_reducible repeat (first | apply Kd.V_alloc | apply Kd.V_drewN | apply Kd.V_drew)); exact HO_0.out) (Kd.R_base ho0) hb); have n1_ := Aside0.mk (Kd.R_elder' (by (with_reducible repeat (first | apply Kd.R_alloc | apply Kd.R_drewN | apply Kd.R_drew)); exact HO_5.out) (Kd.R_base ho0) hb); have n2_ := Aside0.mk (Kd.R_lower (Kd.R_new' (Kd.R_newM (M := fun k_ => (w.heap.size ≤ k_)) ho0 (below_size (by repeat (first | (with_reducible first | exact HB.out | apply below_alloc | apply pw_below_drewN | apply below_drew1) | exact HB.out))) (fun k_ h_ => h_)) (Kd.R_lt (by (with_reducible repeat (first | apply Kd.R_alloc | apply Kd.R_drewN | apply Kd.R_drew)); exact HO_5.out))) (below_size (by repeat (first | (with_reducible first | exact HB.out | apply below_alloc | apply pw_below_drewN | apply below_drew1) | exact HB.out)))); have n3_ := Aside0.mk (below_step (by repeat (first | (with_reducible first | exact HB.out | apply below_alloc | apply pw_below_drewN | apply below_drew1) | exact HB.out)) hb); clear HO_0; clear HO_5; clear HB; have HO_0 := n0_; have HO_5 := n1_; have HO215 := n2_; have HB := n3_; clear n0_ n1_ n2_ n3_; (try clear hb); (try clear hb2); (try clear hk); (try clear hi); (try clear ho0); obtain ⟨Ao35, co35, eo35⟩ := Kd.R_slice HO215.out; subst eo35) | ((with_reducible refine gate_builtin (b := .append) (xs := #[.tmp 39, .tmp 48]) rfl ?_); at_builtin; refine Kd.R_append_rows k61 (w0 := w) w.heap.size rfl (.tmp 39) (.tmp 48) 50 61 (.agg #[(.bool false), (.int .i64 0), (.int .i64 0), (.string ⟨#[]⟩)]) 40 rfl Try.underlying50 info61 rfl (by decide) (by omega) u5 x5_1 t213 _ _ _ (fun k_ => (w.heap.size ≤ k_) ∧ some k_ ≠ (.slice Ao35 t213.length co35 : Value).ownBlock) (fun _ => False) rfl rfl ?aO ?aR (fun _ _ h => h) (fun _ h => h.elim) ?aF ?aB ?aS ?aL ?_; (case aR => repeat (first | exact (Kd.R_reads' HO215.out).2.2 | (with_reducible refine Kd.C_alloc ?_ _) | (with_reducible refine Kd.C_drewN ?_ _) | (with_reducible refine Kd.C_drew ?_))); (case aB => exact (by repeat (first | (with_reducible first | exact HB.out | apply below_alloc | apply pw_below_drewN | apply below_drew1) | exact HB.out))); (case aF => exact (fun k_ hk => ⟨(Nat.le_trans (below_size (by repeat (first | (with_reducible first | exact HB.out | apply below_alloc | apply pw_below_drewN | apply below_drew1) | exact HB.out))) hk), Kd.fresh' (Kd.R_lt (by (with_reducible repeat (first | apply Kd.R_alloc | apply Kd.R_drewN | apply Kd.R_drew)); exact HO215.out)) k_ hk⟩)); (case aO => exact (by (with_reducible repeat (first | apply Kd.R_alloc | apply Kd.R_drewN | apply Kd.R_drew)); exact HO_5.out)); (case aS => exact (below_size (by repeat (first | (with_reducible first | exact HB.out | apply below_alloc | apply pw_below_drewN | apply below_drew1) | exact HB.out)))); (case aL => have := LMc30.out; omega); intro v217 w34 ho hb hg hat; rw [← Ny216.out] at ho; have n0_ := Aside0.mk (Kd.V_afterv (ok := (fun k_ => (P0_ k_ ∨ w.heap.size ≤ k_) ∧ some k_ ≠ (.slice Ao35 t213.length co35 : Value).ownBlock)) (by (with_reducible repeat (first | apply Kd.V_alloc | apply Kd.V_drewN | apply Kd.V_drew)); exact Kd.V_mono HO_0.out (fun _ hk => ⟨⟨hk.1.1, hk.2⟩, hk.1.2⟩)) hg hat); have n1_ := Aside0.mk (Kd.R_after (ok := (fun k_ => (w.heap.size ≤ k_))) (by (with_reducible repeat (first | apply Kd.R_alloc | apply Kd.R_drewN | apply Kd.R_drew)); exact Kd.R_mono HO215.out (fun _ hk => ⟨hk.1.1, hk.2⟩)) hg hat); have n2_ := Aside0.mk (hb); have n3_ := Aside0.mk (ho); clear HO_0; clear HO215; clear HB; clear HO_5; have HO_0 := n0_; have HO215 := n1_; have HB := n2_; have HO218 := n3_; clear n0_ n1_ n2_ n3_; clear ho hb hg hat; have p219 : 0 ≤ (x9_1 : Int) := of_decide_eq_true (by first | (with_reducible assumption) | assumption); have q219 : x9_1 < (l1.length : Int) := of_decide_eq_true (by first | (with_reducible assumption) | assumption); obtain ⟨ad219, e219, hx219_0, hx219_1, hx219_2⟩ := at_T42 HR1.out x9_1 p219 q219; obtain rfl : ad212 = ad219 := (by injection e219); replace hx219_0 := (HB.out.cell (World.block_lt_of_cell? w _ hx219_0)).trans hx219_0; replace hx219_1 := (HB.out.cell (World.block_lt_of_cell? w _ hx219_1)).trans hx219_1; replace hx219_2 := (HB.out.cell (World.block_lt_of_cell? w _ hx219_2)).trans hx219_2; replace p219 := eq_true p219; replace q219 := eq_true q219) | ((with_reducible refine gate_builtin (b := .append) (xs := #[.tmp 50, .tmp 57]) rfl ?_); at_builtin; refine Kd.R_append k61 (w0 := w) w.heap.size rfl (.tmp 50) (.tmp 57) 50 61 (.agg #[(.bool false), (.int .i64 0), (.int .i64 0), (.string ⟨#[]⟩)]) 40 rfl Try.underlying50 info61 rfl (by decide) (by omega) v217 y216 (⟨false, 0, 0, (rd_T42 l1 x9_1).f2⟩ : S61) [.bool false, .int .i64 0, .int .i64 0, .string ((rd_T42 l1 x9_1).f2)] (fun k_ => (w.heap.size ≤ k_) ∧ some k_ ≠ (.slice Ao35 t213.length co35 : Value).ownBlock) (fun _ => False) rfl rfl ?aP (fun _ hk => hk.elim) ?aF ?aO ?aB ?aS ?aL ?_; (case aP => exact k61_mkM _ _ _ (⟨false, 0, 0, (rd_T42 l1 x9_1).f2⟩ : S61)); (case aB => exact (by repeat (first | (with_reducible first | exact HB.out | apply below_alloc | apply pw_below_drewN | apply below_drew1) | exact HB.out))); (case aF => exact (fun k_ hk => ⟨(Nat.le_trans (below_size (by repeat (first | (with_reducible first | exact HB.out | apply below_alloc | apply pw_below_drewN | apply below_drew1) | exact HB.out))) hk), Kd.fresh' (Kd.R_lt (by (with_reducible repeat (first | apply Kd.R_alloc | apply Kd.R_drewN | apply Kd.R_drew)); exact HO215.out)) k_ hk⟩)); (case aO => exact (by (with_reducible repeat (first | apply Kd.R_alloc | apply Kd.R_drewN | apply Kd.R_drew)); exact HO218.out)); (case aS => exact (below_size (by repeat (first | (with_reducible first | exact HB.out | apply below_alloc | apply pw_below_drewN | apply below_drew1) | exact HB.out)))); (case aL => have := LMc31.out; omega); intro v221 w36 ho hb hg hat; rw [← Ny220.out] at ho; have n0_ := Aside0.mk (Kd.V_afterv (ok := (fun k_ => (P0_ k_ ∨ w.heap.size ≤ k_) ∧ some k_ ≠ (.slice Ao35 t213.length co35 : Value).ownBlock)) (by (with_reducible repeat (first | apply Kd.V_alloc | apply Kd.V_drewN | apply Kd.V_drew)); exact HO_0.out) hg hat); have n1_ := Aside0.mk (Kd.R_after (ok := (fun k_ => (w.heap.size ≤ k_))) (by (with_reducible repeat (first | apply Kd.R_alloc | apply Kd.R_drewN | apply Kd.R_drew)); exact HO215.out) hg hat); have n2_ := Aside0.mk (hb); have n3_ := Aside0.mk (ho); clear HO_0; clear HO215; clear HB; clear HO218; have HO_0 := n0_; have HO215 := n1_; have HB := n2_; have HO222 := n3_; clear n0_ n1_ n2_ n3_; clear ho hb hg hat; have p223 : 0 ≤ (x9_1 : Int) := of_decide_eq_true (by first | (with_reducible assumption) | assumption); have q223 : x9_1 < (l1.length : Int) := of_decide_eq_true (by first | (with_reducible assumption) | assumption); obtain ⟨ad223, e223, hx223_0, hx223_1, hx223_2⟩ := at_T42 HR1.out x9_1 p223 q223; obtain rfl : ad212 = ad223 := (by injection e223); replace hx223_0 := (HB.out.cell (World.block_lt_of_cell? w _ hx223_0)).trans hx223_0; replace hx223_1 := (HB.out.cell (World.block_lt_of_cell? w _ hx223_1)).trans hx223_1; replace hx223_2 := (HB.out.cell (World.block_lt_of_cell? w _ hx223_2)).trans hx223_2; replace p223 := eq_true p223; replace q223 := eq_true q223))
                      go_roundg k2
                      case measure => have := HK1.out; have := HK2.out; omega
                      case rel => exact ⟨(x0_2), (y220), ((rd_T42 l1 x9_1).f1), (x8_2), (wrap64 (x9_1 + 1)), (by first | rfl | (simp; done) | (simp [*]; done)), (by first | rfl | (simp; done) | (simp [*]; done)), (by first | rfl | (simp; done) | (simp [*]; done)), H', ⟨by have := HK1.out; have := HK2.out; omega⟩, ⟨by (with_reducible repeat (first | apply Kd.V_alloc | apply Kd.V_drewN | apply Kd.V_drew)); exact Kd.V_mono HO_0.out (fun _ hk => ⟨hk.1.1, hk.2⟩)⟩, ⟨by (with_reducible repeat (first | apply Kd.R_alloc | apply Kd.R_drewN | apply Kd.R_drew)); exact Kd.R_mono HO222.out (fun _ hk => hk.1)⟩, ⟨by repeat (first | (with_reducible first | exact HB.out | apply below_alloc | apply pw_below_drewN | apply below_drew1) | exact HB.out)⟩⟩
                    · rw [if_neg c31] at H
                      exact absurd H (by simp)
                  · rw [if_neg c30] at H
                    exact absurd H (by simp)
                · rw [if_neg c28] at H
                  exact absurd H (by simp)
              · rw [if_neg c27] at H
                exact absurd H (by simp)
      · rw [if_neg c5] at H
        have c5b0 : decide (x9_1 < (l1.length : Int)) = false := decide_eq_false c5
        clear c5
        replace H := Option.bind_eq_some_iff.mp H
        obtain ⟨t185, A370, H⟩ := H
        replace H : (if x5_1.length + t185.length < 3518437208883 then (some (x5_1 ++ t185)) else (none)) = some r := H
        have A37 := Aside0.mk A370
        clear A370
        by_cases c38 : x5_1.length + t185.length < 3518437208883
        · rw [if_pos c38] at H
          have LMc38 := Aside0.mk c38
          clear c38
          obtain ⟨y188, hy188⟩ : ∃ y_ : List (S61), y_ = (x5_1 ++ t185) := ⟨_, rfl⟩
          replace H : (some y188) = some r := by first | (rw [hy188]; with_reducible exact H) | (have H2_ := (Option.bind_some _ _).symm.trans H; rw [hy188]; with_reducible exact H2_) | (have H2_ := (Option.bind_some _ _).symm.trans H; with_reducible exact H2_) | with_reducible exact H | (rw [hy188]; exact H) | exact H
          have Ny188 := Aside0.mk hy188
          clear hy188
          obtain rfl := Option.some.inj H
          obtain ⟨Ao39, co39, eo39⟩ := Kd.V_slice HO_0.out
          subst eo39
          go_wp2_with (first | ((with_reducible refine gate_callee (f := 46) rfl ?_); refine goesL_ (some 69) rfl rfl Try.func46 (by kernel_rfl) rfl #[.slice Ao39 x0_1.length co39, .int .i64 x8_1, .int .i64 x6_1, .int .i64 t184] rfl (by (try simp only [List.map_toArray, List.map_cons, List.map_nil]); first | done | rfl | (simp only [List.length_drop, List.length_take]; rfl)) ?_; (with_reducible refine (monikerref1_kept.calls k1 _ _ x0_1 x8_1 x6_1 t184 t185 _ ?side1 ?side2 A37.out).mono ?_); (case side1 => repeat (first | exact (Kd.V_reads' HO_0.out).2.2 | (with_reducible refine Kd.C_alloc ?_ _) | (with_reducible refine Kd.C_drewN ?_ _) | (with_reducible refine Kd.C_drew ?_))); (case side2 => exact (Kd.V_reads' HO_0.out).2.1); rintro e w40 ⟨v186, rfl, ho0, hb⟩; refine ⟨_, rfl, ?_⟩; have n0_ := Aside0.mk (Kd.V_elder' (by (with_reducible repeat (first | apply Kd.V_alloc | apply Kd.V_drewN | apply Kd.V_drew)); exact HO_0.out) (Kd.R_base ho0) hb); have n1_ := Aside0.mk (Kd.R_elder' (by (with_reducible repeat (first | apply Kd.R_alloc | apply Kd.R_drewN | apply Kd.R_drew)); exact HO_5.out) (Kd.R_base ho0) hb); have n2_ := Aside0.mk (Kd.R_lower (Kd.R_new' (Kd.R_newM (M := fun k_ => (w.heap.size ≤ k_)) ho0 (below_size (by repeat (first | (with_reducible first | exact HB.out | apply below_alloc | apply pw_below_drewN | apply below_drew1) | exact HB.out))) (fun k_ h_ => h_)) (Kd.R_lt (by (with_reducible repeat (first | apply Kd.R_alloc | apply Kd.R_drewN | apply Kd.R_drew)); exact HO_5.out))) (below_size (by repeat (first | (with_reducible first | exact HB.out | apply below_alloc | apply pw_below_drewN | apply below_drew1) | exact HB.out)))); have n3_ := Aside0.mk (below_step (by repeat (first | (with_reducible first | exact HB.out | apply below_alloc | apply pw_below_drewN | apply below_drew1) | exact HB.out)) hb); clear HO_0; clear HO_5; clear HB; have HO_0 := n0_; have HO_5 := n1_; have HO187 := n2_; have HB := n3_; clear n0_ n1_ n2_ n3_; (try clear hb); (try clear hb2); (try clear hk); (try clear hi); (try clear ho0); obtain ⟨Ao42, co42, eo42⟩ := Kd.R_slice HO187.out; subst eo42) | ((with_reducible refine gate_builtin (b := .append) (xs := #[.tmp 64, .tmp 69]) rfl ?_); at_builtin; refine Kd.R_append_rows k61 (w0 := w) w.heap.size rfl (.tmp 64) (.tmp 69) 50 61 (.agg #[(.bool false), (.int .i64 0), (.int .i64 0), (.string ⟨#[]⟩)]) 40 rfl Try.underlying50 info61 rfl (by decide) (by omega) u5 x5_1 t185 _ _ _ (fun k_ => (w.heap.size ≤ k_) ∧ some k_ ≠ (.slice Ao42 t185.length co42 : Value).ownBlock) (fun _ => False) rfl rfl ?aO ?aR (fun _ _ h => h) (fun _ h => h.elim) ?aF ?aB ?aS ?aL ?_; (case aR => repeat (first | exact (Kd.R_reads' HO187.out).2.2 | (with_reducible refine Kd.C_alloc ?_ _) | (with_reducible refine Kd.C_drewN ?_ _) | (with_reducible refine Kd.C_drew ?_))); (case aB => exact (by repeat (first | (with_reducible first | exact HB.out | apply below_alloc | apply pw_below_drewN | apply below_drew1) | exact HB.out))); (case aF => exact (fun k_ hk => ⟨(Nat.le_trans (below_size (by repeat (first | (with_reducible first | exact HB.out | apply below_alloc | apply pw_below_drewN | apply below_drew1) | exact HB.out))) hk), Kd.fresh' (Kd.R_lt (by (with_reducible repeat (first | apply Kd.R_alloc | apply Kd.R_drewN | apply Kd.R_drew)); exact HO187.out)) k_ hk⟩)); (case aO => exact (by (with_reducible repeat (first | apply Kd.R_alloc | apply Kd.R_drewN | apply Kd.R_drew)); exact HO_5.out)); (case aS => exact (below_size (by repeat (first | (with_reducible first | exact HB.out | apply below_alloc | apply pw_below_drewN | apply below_drew1) | exact HB.out)))); (case aL => have := LMc38.out; omega); intro v189 w41 ho hb hg hat; rw [← Ny188.out] at ho; have n0_ := Aside0.mk (Kd.V_afterv (ok := (fun k_ => (P0_ k_ ∨ w.heap.size ≤ k_) ∧ some k_ ≠ (.slice Ao42 t185.length co42 : Value).ownBlock)) (by (with_reducible repeat (first | apply Kd.V_alloc | apply Kd.V_drewN | apply Kd.V_drew)); exact Kd.V_mono HO_0.out (fun _ hk => ⟨⟨hk.1.1, hk.2⟩, hk.1.2⟩)) hg hat); have n1_ := Aside0.mk (Kd.R_after (ok := (fun k_ => (w.heap.size ≤ k_))) (by (with_reducible repeat (first | apply Kd.R_alloc | apply Kd.R_drewN | apply Kd.R_drew)); exact Kd.R_mono HO187.out (fun _ hk => ⟨hk.1.1, hk.2⟩)) hg hat); have n2_ := Aside0.mk (hb); have n3_ := Aside0.mk (ho); clear HO_0; clear HO187; clear HB; clear HO_5; have HO_0 := n0_; have HO187 := n1_; have HB := n2_; have HO190 := n3_; clear n0_ n1_ n2_ n3_; clear ho hb hg hat))
          go_ret
          exact ⟨_, by first | rfl | (simp [errW_none, errW_some] <;> rfl) | (simp [*, errW_none, errW_some] <;> rfl), by (with_reducible repeat (first | apply Kd.R_alloc | apply Kd.R_drewN | apply Kd.R_drew)); exact Kd.R_mono HO190.out (fun _ hk => hk.1), by repeat (first | (with_reducible first | exact HB.out | apply below_alloc | apply pw_below_drewN | apply below_drew1) | exact HB.out)⟩
        · rw [if_neg c38] at H
          exact absurd H (by simp)

end Go.Proofs.Ytaihajmdngoeiaa.F

-- A text of this session's own program (wip/myprint.sh over a changed print tool): functions and their walks
namespace Go.Proofs.Ytaihajmdngoeiaa.F
open Go.RowKit Go.Proofs.YtaihajmdngoeiaaW.PrintWords Go.Proofs.YtaihajmdngoeiaaW.PrintLast Go.Proofs.YtaihajmdngoeiaaW.PrintMore
attribute [local go_sem] max2_int min2_int max_two min_two max_three min_three max_four min_four   -- for this text's walks alone
set_option linter.unusedVariables false
set_option linter.unusedSimpArgs false

/-! ### monikerref1_Whole: function 37 -/
def monikerref1_Whole.f (a0 : Int) : Option ((List (S61))) := if a0 = 0 then (some ([] : List (S61))) else (some (([(⟨true, 0, a0, (⟨#[]⟩ : ByteArray)⟩ : S61)] : List (S61))))
set_option maxHeartbeats 8000000 in
set_option maxRecDepth 100000 in
theorem monikerref1_Whole.calls (a0 : Int) (r : List (S61)) (w : World) (h : monikerref1_Whole.f a0 = some r) :
    Calls Try.prog 37 #[.int .i64 a0] w fun e w' => ∃ v0_ : Value, e = .returned (v0_) ∧ Kd.R k61 61 w' w.heap.size (fun _ => True) v0_ r ∧ Below w.heap.size w w' := by
  have hu61 := Try.underlying61
  have HB := Aside0.mk (Below.refl w.heap.size w)
  have H : (if a0 = 0 then (some ([] : List (S61))) else (some (([(⟨true, 0, a0, (⟨#[]⟩ : ByteArray)⟩ : S61)] : List (S61))))) = some r := h
  clear h
  by_cases c2 : a0 = 0
  · rw [if_pos c2] at H
    have c2b0 : (a0 == 0) = true := beq_iff_eq.mpr c2
    have c2b1 : (a0 != 0) = false := bne_eq_false_iff_eq.mpr c2
    clear c2
    obtain rfl := Option.some.inj H
    go_enter Try.func37, Try.ntmps37
    go_wp2
    go_ret
    exact ⟨_, by first | rfl | (simp [errW_none, errW_some] <;> rfl) | (simp [*, errW_none, errW_some] <;> rfl), by first | exact Kd.R_nil _ _ _ _ _ | exact Kd.N_nil _ _ _ _ _ | exact Kd.V_nil _ _ _ _ _ | exact Kd.Q_nil _ _ _ _ _ | exact Kd.S_nil _ _ _ _ _, by repeat (first | (with_reducible first | exact HB.out | apply below_alloc | apply pw_below_drewN | apply below_drew1) | exact HB.out)⟩
  · rw [if_neg c2] at H
    have c2b0 : (a0 == 0) = false := beq_eq_false_iff_ne.mpr c2
    have c2b1 : (a0 != 0) = true := bne_iff_ne.mpr c2
    obtain ⟨y224, hy224⟩ : ∃ y_ : List (S61), y_ = (([(⟨true, 0, a0, (⟨#[]⟩ : ByteArray)⟩ : S61)] : List (S61))) := ⟨_, rfl⟩
    replace H : (some y224) = some r := by first | (rw [hy224]; with_reducible exact H) | (have H2_ := (Option.bind_some _ _).symm.trans H; rw [hy224]; with_reducible exact H2_) | (have H2_ := (Option.bind_some _ _).symm.trans H; with_reducible exact H2_) | with_reducible exact H | (rw [hy224]; exact H) | exact H
    have Ny224 := Aside0.mk hy224
    clear hy224
    obtain rfl := Option.some.inj H
    go_enter Try.func37, Try.ntmps37
    go_wp2_with (first | ((with_reducible refine gate_dst (N := 7) rfl ?_); refine Kd.R_lit k61 _ 61 ?hg (N := 7) ?hd (xs := ([(⟨true, 0, a0, (⟨#[]⟩ : ByteArray)⟩ : S61)] : List (S61))) (inner := [.bool true, .int .i64 0, .int .i64 a0, .string (⟨#[]⟩ : ByteArray)]) (ok := fun _ => True) (okp := fun _ => True) ?hr ?hp (fun _ hk => hk) trivial (Below.refl _ _) (Nat.le_refl _) (by simp) ?_; (case hd => rfl); (case hg => rfl); (case hr => first | (go_simp; done) | (go_simp; rfl)); (case hp => exact (Reps.c4 (show Kd.M k61 _ _ _ (⟨true, 0, a0, (⟨#[]⟩ : ByteArray)⟩ : S61) [.bool true, .int .i64 0, .int .i64 a0, .string (⟨#[]⟩ : ByteArray)] from (k61_mkM _ _ _ (⟨true, 0, a0, (⟨#[]⟩ : ByteArray)⟩ : S61) )) (Reps.none _ _))); intro v225 w3 ho4 hb hg_ hnew_; clear hg_ hnew_; (first | rw [← Ny224.out] at ho4 | (simp only [Int.reduceToNat] at ho4; rw [← Ny224.out] at ho4)); have n0_ := Aside0.mk (Kd.R_lower ho4 (below_size (by repeat (first | (with_reducible first | exact HB.out | apply below_alloc | apply pw_below_drewN | apply below_drew1) | exact HB.out)))); have n1_ := Aside0.mk (below_step (by repeat (first | (with_reducible first | exact HB.out | apply below_alloc | apply pw_below_drewN | apply below_drew1) | exact HB.out)) hb); clear HB; have HO226 := n0_; have HB := n1_; clear n0_ n1_; clear hb ho4))
    go_ret
    exact ⟨_, by first | rfl | (simp [errW_none, errW_some] <;> rfl) | (simp [*, errW_none, errW_some] <;> rfl), by (with_reducible repeat (first | apply Kd.R_alloc | apply Kd.R_drewN | apply Kd.R_drew)); exact HO226.out, by repeat (first | (with_reducible first | exact HB.out | apply below_alloc | apply pw_below_drewN | apply below_drew1) | exact HB.out)⟩

end Go.Proofs.Ytaihajmdngoeiaa.F

namespace Go.Proofs.Ytaihajmdngoeiaa.Q
open Go.RowKit Go.Proofs.YtaihajmdngoeiaaW.PrintWords Go.Proofs.YtaihajmdngoeiaaW.PrintLast Go.Proofs.YtaihajmdngoeiaaW.PrintMore
open Go.Proofs.Ytaihajmdngoeiaa.F

theorem rd61_at (l : List S61) (i : Nat) (h : i < l.length) : rd_T61 l (i : Int) = l[i] := by
  simp [rd_T61, List.getD_eq_getElem?_getD, h]
theorem mx_0 {x : Int} (h : 0 ≤ x) : mx x 0 = x := by unfold mx; omega
theorem mn_le {x y : Int} (h : x ≤ y) : mn x y = x := by unfold mn; omega

def whole (F : Int) : List S61 := if F = 0 then [] else [⟨true, 0, F, ⟨#[]⟩⟩]
theorem Whole_is (F : Int) : monikerref1_Whole.f F = some (whole F) := by
  unfold monikerref1_Whole.f whole
  split <;> rfl
def kp (a b : Int) : List S61 := if a < b then [⟨true, a, b, ⟨#[]⟩⟩] else []
/-- What a list of edits leaves of one run: the kept stretches and the texts. -/
def segs (F : Int) : Int → List S42 → List S61
  | a, [] => kp a F
  | a, e :: t => kp a e.f0 ++ ⟨false, 0, 0, e.f2⟩ :: segs F e.f1 t

theorem kept_one (F x y : Int) (hF : 0 ≤ F) (hF2 : F ≤ 4611686018427387904) (hx : 0 ≤ x) (hxF : x ≤ F) (hy : 0 ≤ y) (hyF : y ≤ F) : Ev (fun k => monikerref1_kept.f k (whole F) 0 x y) (kp x y) := by
  unfold monikerref1_kept.f whole
  by_cases h0 : F = 0
  · rw [if_pos h0]
    refine ⟨2, fun n hn => ?_⟩
    obtain ⟨k, rfl⟩ : ∃ m, n = m + 2 := ⟨n - 2, by omega⟩
    simp only [monikerref1_kept.l0]
    rw [if_neg (by simp)]
    simp only [monikerref1_kept.j1, kp]
    rw [if_neg (by simp), if_neg (by omega)]
  · rw [if_neg h0]
    refine ⟨6, fun n hn => ?_⟩
    obtain ⟨k, rfl⟩ : ∃ m, n = m + 6 := ⟨n - 6, by omega⟩
    have hend : ∀ (j : Nat) (a : Int) (o : List S61), monikerref1_kept.l0 (j + 2) [⟨true, 0, F, ⟨#[]⟩⟩] a x y o 1 = some o := by
      intro j a o
      simp only [monikerref1_kept.l0]
      rw [if_neg (by simp)]
      simp only [monikerref1_kept.j1]
      rw [if_neg (by simp)]
    have hr : rd_T61 [⟨true, 0, F, ⟨#[]⟩⟩] 0 = ⟨true, 0, F, ⟨#[]⟩⟩ := rfl
    have hw : wrap64 (F - 0) = F := by rw [w64] <;> omega
    have hw1 : wrap64 (x - 0) = x := by rw [w64] <;> omega
    have hw2 : wrap64 (y - 0) = y := by rw [w64] <;> omega
    have hw3 : wrap64 (0 + 1) = 1 := by rw [w64] <;> omega
    have hw4 : wrap64 (0 + x) = x := by rw [w64] <;> omega
    have hw5 : wrap64 (0 + y) = y := by rw [w64] <;> omega
    simp only [monikerref1_kept.l0]
    rw [if_pos (by simp)]
    simp only [monikerref1_kept.j1]
    rw [if_pos (by simp; omega), if_pos (by omega), if_pos (by simp), hr]
    simp only [monikerref1_Run_size.f, if_true, Option.bind_some, hw]
    rw [if_neg h0]
    simp only [monikerref1_kept.j2]
    rw [if_neg (by simp), hr]
    simp only [hw1, hw2, hw3]
    rw [mx_0 hx, mn_le hyF]
    unfold kp
    by_cases hxy : x < y
    · rw [if_pos hxy, if_pos hxy, if_pos (by omega), if_pos (by simp)]
      simp only [monikerref1_Run_part.f, if_true, Option.bind_some, hw4, hw5]
      rw [if_pos (by simp)]
      exact hend _ _ _
    · rw [if_neg hxy, if_neg hxy]
      exact hend _ _ _

theorem done_loop (F : Int) (hF : 0 ≤ F) (hF2 : F ≤ 4611686018427387904) (es : List S42) (hlen : es.length ≤ 65536) (d : Nat) : ∀ (i : Nat) (at_ : Int) (out : List S61) (p : Option Int), i ≤ es.length → es.length - i = d → 0 ≤ at_ → at_ ≤ F → Chain F p (es.drop i) → out.length + 2 * d ≤ 200000 →
    Ev (fun k => monikerref1_Done.l0 k (whole F) es out at_ F 0 (i : Int)) (out ++ segs F at_ (es.drop i)) := by
  induction d with
  | zero =>
    intro i at_ out p h1 h2 ha1 ha2 hc ho
    obtain ⟨K, hK⟩ := kept_one F at_ F hF hF2 ha1 ha2 hF (Int.le_refl _)
    refine ⟨K + 1, fun n hn => ?_⟩
    obtain ⟨k, rfl⟩ : ∃ m, n = m + 1 := ⟨n - 1, by omega⟩
    have := hK k (by omega)
    simp only at this
    simp only [monikerref1_Done.l0]
    rw [if_neg (by omega), this, List.drop_eq_nil_of_le (by omega)]
    simp only [Option.bind_some, segs]
    have hk : (kp at_ F).length ≤ 1 := by unfold kp; split <;> simp
    rw [if_pos (by omega)]
  | succ d ih =>
    intro i at_ out p h1 h2 ha1 ha2 hc ho
    have hi : i < es.length := by omega
    have hw : wrap64 ((i : Int) + 1) = ((i + 1 : Nat) : Int) := by rw [w64] <;> omega
    have hci : (i : Int) < (es.length : Int) := by omega
    have hc0 : (0 : Int) ≤ (i : Int) := by omega
    have hnl : ¬ wrap64 (0 + wrap64 (F - 0)) < at_ := by rw [w64 (x := F - 0) (by omega) (by omega), w64] <;> omega
    rw [List.drop_eq_getElem_cons hi] at hc ⊢
    obtain ⟨c1, c2, c3, c4, c5⟩ := hc
    obtain ⟨K, hK⟩ := kept_one F at_ (es[i]).f0 hF hF2 ha1 ha2 c1 (by omega)
    have hk : (kp at_ (es[i]).f0).length ≤ 1 := by unfold kp; split <;> simp
    have hb1 : out.length + (kp at_ (es[i]).f0).length < 3518437208883 := by omega
    have hb2 : (out ++ kp at_ (es[i]).f0).length < 3518437208883 := by rw [List.length_append]; omega
    obtain ⟨K', hK'⟩ := ih (i + 1) (es[i]).f1 (out ++ kp at_ (es[i]).f0 ++ [⟨false, 0, 0, (es[i]).f2⟩]) (some (es[i]).f1) (by omega) (by omega) (by omega) c3 c5 (by simp; omega)
    refine ⟨K + K' + 2, fun n hn => ?_⟩
    obtain ⟨k, rfl⟩ : ∃ m, n = m + 2 := ⟨n - 2, by omega⟩
    have g1 := hK k (by omega)
    have g2 := hK' k (by omega)
    simp only at g1 g2
    have htail : ((monikerref1_kept.f k (whole F) 0 at_ (es[i]).f0).bind fun t180 => (if out.length + t180.length < 3518437208883 then ((some (out ++ t180 : List S61)).bind fun y183 => (if y183.length < 3518437208883 then (monikerref1_Done.l0 k (whole F) es (y183 ++ [(⟨false, 0, 0, (es[i]).f2⟩ : S61)]) ((es[i]).f1) F 0 (wrap64 ((i : Int) + 1))) else (none))) else (none))) = some (out ++ segs F at_ (es[i] :: es.drop (i + 1))) := by
      rw [g1]
      simp only [Option.bind_some]
      rw [if_pos hb1, if_pos hb2, hw, g2]
      simp [segs]
    simp only [monikerref1_Done.l0]
    rw [if_pos hci]
    simp only [monikerref1_Done.l1, rd_at es i hi]
    by_cases h0 : F = 0
    · have hw0 : whole F = [] := by unfold whole; rw [if_pos h0]
      rw [hw0] at htail ⊢
      rw [if_neg (by simp), if_pos hc0, if_pos hci]
      exact htail
    · have hw0 : whole F = [⟨true, 0, F, ⟨#[]⟩⟩] := by unfold whole; rw [if_neg h0]
      rw [hw0] at htail ⊢
      have hr : rd_T61 [⟨true, 0, F, ⟨#[]⟩⟩] 0 = ⟨true, 0, F, ⟨#[]⟩⟩ := rfl
      rw [if_pos (by simp), if_pos (by simp), hr]
      simp only [monikerref1_Run_size.f, if_true, Option.bind_some]
      rw [if_neg hnl, if_pos hc0, if_pos hci]
      exact htail

theorem Size_whole (F : Int) (hF : 0 ≤ F) (hF2 : F ≤ 4611686018427387904) : Ev (fun k => monikerref1_Size.f k (whole F)) F := by
  unfold monikerref1_Size.f whole
  by_cases h0 : F = 0
  · rw [if_pos h0]
    refine ⟨1, fun n hn => ?_⟩
    obtain ⟨k, rfl⟩ : ∃ m, n = m + 1 := ⟨n - 1, by omega⟩
    simp only [monikerref1_Size.l0]
    rw [if_neg (by simp), h0]
  · rw [if_neg h0]
    refine ⟨2, fun n hn => ?_⟩
    obtain ⟨k, rfl⟩ : ∃ m, n = m + 2 := ⟨n - 2, by omega⟩
    have hr : rd_T61 [⟨true, 0, F, ⟨#[]⟩⟩] 0 = ⟨true, 0, F, ⟨#[]⟩⟩ := rfl
    simp only [monikerref1_Size.l0]
    rw [if_pos (by simp), if_pos (by omega), hr]
    simp only [monikerref1_Run_size.f, if_true, Option.bind_some]
    rw [w64 (x := F - 0) (by omega) (by omega), w64 (x := 0 + 1) (by omega) (by omega), if_neg (by simp), w64 (by omega) (by omega)]
    simp
theorem Done_is (F : Int) (hF : 0 ≤ F) (hF2 : F ≤ 4611686018427387904) (es : List S42) (hlen : es.length ≤ 65536) (hc : Chain F none es) : Ev (fun k => monikerref1_Done.f k (whole F) es) (segs F 0 es) := by
  unfold monikerref1_Done.f
  refine (Size_whole F hF hF2).bind ?_
  have := done_loop F hF hF2 es hlen es.length 0 0 [] none (by omega) (by omega) (by omega) hF hc (by simp; omega)
  simpa using this

def grow (e : S42) : Int := (e.f2.size : Int) - (e.f1 - e.f0)
def sumG : List S42 → Int
  | [] => 0
  | e :: t => grow e + sumG t
theorem sumG_append : ∀ (l m : List S42), sumG (l ++ m) = sumG l + sumG m
  | [], m => by simp [sumG]
  | e :: t, m => by simp only [List.cons_append, sumG]; rw [sumG_append t m]; omega
theorem segs_len (F : Int) : ∀ (es : List S42) (a : Int), (segs F a es).length ≤ 2 * es.length + 1
  | [], a => by simp only [segs, kp]; split <;> simp
  | e :: t, a => by
    have := segs_len F t e.f1
    simp only [segs, List.length_append, List.length_cons]
    have : (kp a e.f0).length ≤ 1 := by unfold kp; split <;> simp
    omega
end Go.Proofs.Ytaihajmdngoeiaa.Q

namespace Go.Proofs.Ytaihajmdngoeiaa.Q
open Go.RowKit Go.Proofs.YtaihajmdngoeiaaW.PrintWords Go.Proofs.YtaihajmdngoeiaaW.PrintLast Go.Proofs.YtaihajmdngoeiaaW.PrintMore
open Go.Proofs.Ytaihajmdngoeiaa.F
set_option linter.unusedVariables false
set_option linter.unusedSimpArgs false

def oAt (x y : Int) : List At := (List.range (y - x).toNat).map fun (i : Nat) => .by (.old (x + (i : Int)))
def oCs (x y : Int) : List Cl := (List.range (y - x).toNat).map fun (i : Nat) => (false, By.old (x + (i : Int)))
def rsz (r : S61) : Int := if r.f0 = true then r.f2 - r.f1 else (r.f3.size : Int)
def rAt (r : S61) : List At := if r.f0 = true then oAt r.f1 r.f2 else .mark :: news r.f3.data.toList
def rAts (l : List S61) : List At := l.flatMap rAt
/-- A run as the rows of the reference hold it. -/
def Rn (r : S61) : Prop := if r.f0 = true then r.f1 < r.f2 ∧ r.f3 = ⟨#[]⟩ else r.f1 = 0 ∧ r.f2 = 0
def sum_ : List S61 → Int
  | [] => 0
  | r :: l => rsz r + sum_ l
/-- Whether an edit lies ahead of a new byte is not told. -/
def stp (l : List Cl) : List Cl := l.map fun c => match c.2 with | .new x => (false, .new x) | .old k => (c.1, .old k)
def sC (R : Rw) : Rw := (stp R.1, R.2)
theorem oAt_cAts (x y : Int) : oAt x y = cAts (oCs x y) := by
  unfold oAt oCs cAts
  rw [List.flatMap_map]
  induction (List.range (y - x).toNat) with
  | nil => rfl
  | cons i l ih => simp [ih, cAt]
theorem oCs_len (x y : Int) (h : x ≤ y) : ((oCs x y).length : Int) = y - x := by
  unfold oCs
  simp
  omega
theorem oCs_drop (x y z : Int) (h : x ≤ z) (h2 : z ≤ y) : (oCs x y).drop (z - x).toNat = oCs z y := by
  apply List.ext_getElem
  · simp [oCs]; omega
  · intro i h3 h4
    simp [oCs] at h3 h4 ⊢
    omega
theorem oCs_take (x y z : Int) (h : x ≤ z) (h2 : z ≤ y) : (oCs x y).take (z - x).toNat = oCs x z := by
  apply List.ext_getElem
  · simp [oCs]; omega
  · intro i h3 h4
    simp [oCs] at h3 h4 ⊢
theorem sC_snd {R R' : Rw} (h : sC R = sC R') : R.2 = R'.2 := (show (sC R).2 = (sC R').2 from congrArg (fun z : Rw => z.2) h)
theorem sC_append (A B : List At) (f f' : Bool) (B' : List At) (A' : List At) (h1 : sC (cells f A) = sC (cells f' A')) (h2 : sC (cells (cells f A).2 B) = sC (cells (cells f A).2 B')) : sC (cells f (A ++ B)) = sC (cells f' (A' ++ B')) := by
  rw [cells_append, cells_append]
  have e1 : stp (cells f A).1 = stp (cells f' A').1 := congrArg Prod.fst h1
  have e2 : (cells f A).2 = (cells f' A').2 := sC_snd h1
  rw [← e2]
  have e3 : stp (cells (cells f A).2 B).1 = stp (cells (cells f A).2 B').1 := congrArg Prod.fst h2
  have e4 : (cells (cells f A).2 B).2 = (cells (cells f A).2 B').2 := sC_snd h2
  unfold sC
  simp only [Prod.mk.injEq]
  refine ⟨?_, e4⟩
  unfold stp at e1 e3 ⊢
  rw [List.map_append, List.map_append, e1, e3]
theorem sC_right (A B B' : List At) (f : Bool) (h : ∀ g, sC (cells g B) = sC (cells g B')) : sC (cells f (A ++ B)) = sC (cells f (A ++ B')) := sC_append A B f f B' A rfl (h _)
theorem stp_lst (n : Int) : ∀ (Q : List Cl) (last : Int) (op : Bool) (tx : List UInt8) (fin : Bool), lstC n last op tx (stp Q) fin = lstC n last op tx Q fin
  | [], last, op, tx, fin => rfl
  | (f, .new c) :: r, last, op, tx, fin => by
    show lstC n last true (tx ++ [c]) (stp r) fin = lstC n last true (tx ++ [c]) r fin
    exact stp_lst n r last true _ fin
  | (f, .old k) :: r, last, op, tx, fin => by
    show (if op = true ∨ f = true ∨ last < k then ⟨last, k, tx⟩ :: lstC n (k + 1) false [] (stp r) fin else lstC n (k + 1) false [] (stp r) fin) = _
    rw [stp_lst n r]
    rfl
theorem lst_sC (n last : Int) (op : Bool) (tx : List UInt8) (R R' : Rw) (h : sC R = sC R') : lstC n last op tx R.1 R.2 = lstC n last op tx R'.1 R'.2 := by
  have e1 : stp R.1 = stp R'.1 := congrArg Prod.fst h
  have e2 : R.2 = R'.2 := sC_snd h
  rw [← stp_lst n R.1, ← stp_lst n R'.1, e1, e2]

def partS (r : S61) (a b : Int) : S61 := if r.f0 = true then ⟨true, r.f1 + a, r.f1 + b, ⟨#[]⟩⟩ else ⟨false, 0, 0, r.f3.extract a.toNat b.toNat⟩
/-- The runs from x to y, with those without bytes that lie there. -/
def keptS : Int → Int → Int → List S61 → List S61
  | _, _, _, [] => []
  | p, x, y, r :: l => if p ≤ y then ((if rsz r = 0 ∧ x ≤ p then [r] else []) ++ (if max (x - p) 0 < min (y - p) (rsz r) then [partS r (max (x - p) 0) (min (y - p) (rsz r))] else [])) ++ keptS (p + rsz r) x y l else []
theorem rsz_pos {r : S61} (h : Rn r) : 0 ≤ rsz r := by
  unfold Rn at h
  unfold rsz
  split
  · next e => rw [if_pos e] at h; omega
  · omega
theorem keptS_past (x y : Int) : ∀ (l : List S61) (p : Int), y < p → keptS p x y l = []
  | [], p, h => rfl
  | r :: l, p, h => by
    simp only [keptS]
    rw [if_neg (by omega)]
theorem part_all {r : S61} (h : Rn r) (h0 : 0 < rsz r) : partS r 0 (rsz r) = r := by
  obtain ⟨f0, f1, f2, f3⟩ := r
  unfold Rn at h
  unfold partS rsz at *
  cases f0 with
  | true =>
    simp only [if_true] at h h0 ⊢
    obtain ⟨h1, h2⟩ := h
    subst h2
    congr 1 <;> omega
  | false =>
    simp only [Bool.false_eq_true, if_false] at h h0 ⊢
    obtain ⟨rfl, rfl⟩ := h
    congr 1
    apply ByteArray.ext
    simp
/-- Nothing is lost of runs that lie wholly between. -/
theorem kept_all (x y : Int) : ∀ (l : List S61) (p : Int), (∀ r ∈ l, Rn r) → x ≤ p → p + sum_ l ≤ y → keptS p x y l = l
  | [], p, _, _, _ => rfl
  | r :: l, p, hR, hx, hy => by
    have h0 := rsz_pos (hR r List.mem_cons_self)
    have hsum : ∀ l : List S61, (∀ r ∈ l, Rn r) → 0 ≤ sum_ l := by
      intro l
      induction l with
      | nil => intro _; exact Int.le_refl _
      | cons r l ih =>
        intro h
        have := rsz_pos (h r List.mem_cons_self)
        have := ih (fun x hx => h x (List.mem_cons_of_mem _ hx))
        simp only [sum_]
        omega
    have hl := hsum l (fun x hx => hR x (List.mem_cons_of_mem _ hx))
    simp only [sum_] at hy
    simp only [keptS]
    rw [if_pos (by omega), kept_all x y l (p + rsz r) (fun z hz => hR z (List.mem_cons_of_mem _ hz)) (by omega) (by omega)]
    by_cases hz : rsz r = 0
    · rw [if_pos ⟨hz, hx⟩, if_neg (by omega)]
      rfl
    · rw [if_neg (fun h => hz h.1), if_pos (by omega), show max (x - p) 0 = 0 by omega, show min (y - p) (rsz r) = rsz r by omega, part_all (hR r List.mem_cons_self) (by omega)]
      rfl
theorem kept_skip (x y : Int) (r : S61) (l : List S61) (p : Int) (hr : Rn r) (h : p + rsz r < x) (hxy : x ≤ y) : keptS p x y (r :: l) = keptS (p + rsz r) x y l := by
  have h0 := rsz_pos hr
  simp only [keptS]
  rw [if_pos (by omega), if_neg (by omega), if_neg (by omega)]
  rfl
end Go.Proofs.Ytaihajmdngoeiaa.Q

namespace Go.Proofs.Ytaihajmdngoeiaa.Q
open Go.RowKit Go.Proofs.YtaihajmdngoeiaaW.PrintWords Go.Proofs.YtaihajmdngoeiaaW.PrintLast Go.Proofs.YtaihajmdngoeiaaW.PrintMore
open Go.Proofs.Ytaihajmdngoeiaa.F
set_option linter.unusedVariables false
set_option linter.unusedSimpArgs false

def flg (g : Bool) : List Cl → List Cl
  | [] => []
  | c :: t => (g || c.1, c.2) :: t
/-- The cells of a run with bytes. -/
def crow (g : Bool) (r : S61) : List Cl := if r.f0 = true then flg g (oCs r.f1 r.f2) else newc true r.f3.data.toList
theorem oCs_cons (x y : Int) (h : x < y) : oCs x y = (false, .old x) :: oCs (x + 1) y := by
  unfold oCs
  obtain ⟨d, hd⟩ : ∃ d : Nat, (y - x).toNat = d + 1 := ⟨(y - x).toNat - 1, by omega⟩
  rw [hd, show (y - (x + 1)).toNat = d by omega, List.range_succ_eq_map]
  simp only [List.map_cons, List.map_map]
  congr 1
  · simp
  · apply List.map_congr_left
    intro i _
    simp only [Function.comp_apply, Prod.mk.injEq, By.old.injEq, true_and]
    omega
theorem cells_flg (g : Bool) (C : List Cl) (X : List At) (h : C ≠ []) : cells g (cAts C ++ X) = (flg g C ++ (cells false X).1, (cells false X).2) := by
  rw [cells_cAts]
  cases C with
  | nil => exact absurd rfl h
  | cons c t => rfl
theorem cells_run (g : Bool) (r : S61) (X : List At) (hr : Rn r) (h : 0 < rsz r) : cells g (rAt r ++ X) = (crow g r ++ (cells false X).1, (cells false X).2) := by
  unfold rAt crow
  unfold Rn at hr
  unfold rsz at h
  by_cases e : r.f0 = true
  · rw [if_pos e] at hr h ⊢
    rw [if_pos e, oAt_cAts]
    refine cells_flg g _ X ?_
    rw [oCs_cons _ _ hr.1]
    simp
  · rw [if_neg e] at h ⊢
    rw [if_neg e]
    simp only [List.cons_append, cells]
    rw [cells_news]
    have : (true && r.f3.data.toList.isEmpty) = false := by
      cases ht : r.f3.data.toList with
      | nil =>
        have := data_length r.f3
        rw [ht] at this
        simp at this
        omega
      | cons a b => rfl
    rw [this]
theorem crow_len (g : Bool) (r : S61) (hr : Rn r) : ((crow g r).length : Int) = rsz r := by
  unfold crow rsz
  unfold Rn at hr
  by_cases e : r.f0 = true
  · rw [if_pos e] at hr ⊢
    rw [if_pos e]
    have := oCs_len r.f1 r.f2 (by omega)
    have hf : (flg g (oCs r.f1 r.f2)).length = (oCs r.f1 r.f2).length := by cases oCs r.f1 r.f2 <;> rfl
    rw [hf]
    exact this
  · rw [if_neg e, if_neg e, newc_len, data_length]
theorem stp_new : ∀ (L : List Cl) (T : List UInt8), L.map (·.2) = T.map By.new → stp L = T.map fun c => (false, By.new c)
  | [], [], _ => rfl
  | [], _ :: _, h => by simp at h
  | _ :: _, [], h => by simp at h
  | (f, b) :: L, c :: T, h => by
    simp only [List.map_cons, List.cons.injEq] at h
    obtain ⟨rfl, h2⟩ := h
    have := stp_new L T h2
    unfold stp at this ⊢
    simp only [List.map_cons]
    rw [this]
theorem flg_snd (g : Bool) (L : List Cl) : (flg g L).map (·.2) = L.map (·.2) := by cases L <;> rfl
theorem flg_flg (f g : Bool) (L : List Cl) : flg f (flg g L) = flg (f || g) L := by cases L <;> simp [flg, Bool.or_assoc]
theorem flg_drop (g : Bool) (L : List Cl) (i : Nat) : (flg g L).drop i = if i = 0 then flg g L else L.drop i := by
  cases i with
  | zero => rfl
  | succ i => cases L <;> rfl
theorem flg_take (g : Bool) (L : List Cl) (i : Nat) : (flg g L).take i = flg g (L.take i) := by
  cases i with
  | zero => simp [flg]
  | succ i => cases L <;> rfl
theorem sC_mk {A A' : List Cl} {R R' : Rw} (h : stp A = stp A') (h2 : sC R = sC R') : sC (A ++ R.1, R.2) = sC (A' ++ R'.1, R'.2) := by
  have e1 : stp R.1 = stp R'.1 := congrArg Prod.fst h2
  have e2 := sC_snd h2
  unfold sC
  simp only [Prod.mk.injEq]
  refine ⟨?_, e2⟩
  unfold stp at h e1 ⊢
  rw [List.map_append, List.map_append, h, e1]
/-- A piece of a run. -/
theorem piece_cells (r : S61) (hr : Rn r) (a b : Int) (ha : 0 ≤ a) (hab : a < b) (hb : b ≤ rsz r) (f g : Bool) (W W' : List At) (hW : sC (cells false W) = sC (cells false W')) :
    sC (cells (if a = 0 then f || g else f) (rAt (partS r a b) ++ W)) = sC (cells f (cAts (((crow g r).drop a.toNat).take (b - a).toNat) ++ W')) := by
  have hlen := crow_len g r hr
  have hne : ((crow g r).drop a.toNat).take (b - a).toNat ≠ [] := by
    intro e
    have := congrArg List.length e
    rw [List.length_take, List.length_drop] at this
    simp only [List.length_nil] at this
    omega
  rw [cells_flg f _ W' hne]
  by_cases e : r.f0 = true
  · have hp : Rn (partS r a b) ∧ 0 < rsz (partS r a b) := by
      unfold partS Rn rsz
      rw [if_pos e]
      simp only [if_true]
      exact ⟨⟨by omega, trivial⟩, by omega⟩
    rw [cells_run _ _ W hp.1 hp.2]
    refine sC_mk ?_ hW
    congr 1
    have hc : ∀ g, crow g r = flg g (oCs r.f1 r.f2) := fun g => by unfold crow; rw [if_pos e]
    have hc2 : ∀ g, crow g (partS r a b) = flg g (oCs (r.f1 + a) (r.f1 + b)) := fun g => by unfold crow partS; rw [if_pos e]; rfl
    have hs : rsz r = r.f2 - r.f1 := by unfold rsz; rw [if_pos e]
    rw [hc, hc2, flg_drop]
    have hd := oCs_drop r.f1 r.f2 (r.f1 + a) (by omega) (by omega)
    have ht := oCs_take (r.f1 + a) r.f2 (r.f1 + b) (by omega) (by omega)
    rw [show (r.f1 + a - r.f1).toNat = a.toNat by omega] at hd
    rw [show (r.f1 + b - (r.f1 + a)).toNat = (b - a).toNat by omega] at ht
    by_cases hz : a = 0
    · subst hz
      simp only [Int.toNat_zero, if_true, List.drop_zero] at hd ⊢
      rw [flg_take, flg_flg]
      congr 1
      rw [← ht, show r.f1 + 0 = r.f1 by omega]
    · first | rw [if_neg (show ¬ a.toNat = 0 by omega), if_neg hz, hd, ht] | rw [if_neg (show ¬ a.toNat = 0 by omega), hd, ht]
  · have hs : rsz r = (r.f3.size : Int) := by unfold rsz; rw [if_neg e]
    have hc : crow g r = newc true r.f3.data.toList := by unfold crow; rw [if_neg e]
    have hp : partS r a b = ⟨false, 0, 0, r.f3.extract a.toNat b.toNat⟩ := by unfold partS; rw [if_neg e]
    have hps : Rn (partS r a b) ∧ 0 < rsz (partS r a b) := by
      have hz : (r.f3.extract a.toNat b.toNat).size = b.toNat - a.toNat := by rw [ByteArray.size_extract]; omega
      rw [hp]
      refine ⟨?_, ?_⟩
      · show (if false = true then _ else (0 : Int) = 0 ∧ (0 : Int) = 0)
        simp
      · show (0 : Int) < (if false = true then (0 : Int) - 0 else ((r.f3.extract a.toNat b.toNat).size : Int))
        rw [hz]
        simp
        omega
    rw [cells_run _ _ W hps.1 hps.2]
    refine sC_mk ?_ hW
    have hT : (r.f3.extract a.toNat b.toNat).data.toList = (r.f3.data.toList.drop a.toNat).take (b - a).toNat := by
      rw [ByteArray.data_extract, Array.toList_extract, show (b - a).toNat = b.toNat - a.toNat by omega]
    have e1 : (crow (if a = 0 then f || g else f) (partS r a b)).map (·.2) = ((r.f3.data.toList.drop a.toNat).take (b - a).toNat).map By.new := by
      rw [hp]
      unfold crow
      simp only [Bool.false_eq_true, if_false]
      rw [newc_by, hT]
    have e2 : (flg f (((crow g r).drop a.toNat).take (b - a).toNat)).map (·.2) = ((r.f3.data.toList.drop a.toNat).take (b - a).toNat).map By.new := by
      rw [flg_snd, List.map_take, List.map_drop, hc, newc_by, ← List.map_drop, ← List.map_take]
    rw [stp_new _ _ e1, stp_new _ _ e2]
theorem rn_zero {r : S61} (hr : Rn r) (h : rsz r = 0) : rAt r = [.mark] := by
  unfold Rn at hr
  unfold rsz at h
  unfold rAt
  by_cases e : r.f0 = true
  · rw [if_pos e] at hr h
    omega
  · rw [if_neg e] at h ⊢
    have : r.f3.data.toList = [] := List.eq_nil_of_length_eq_zero (by rw [data_length]; omega)
    rw [this]
    rfl
theorem rAts_cons (r : S61) (l : List S61) : rAts (r :: l) = rAt r ++ rAts l := by simp [rAts]
theorem rAts_append (a b : List S61) : rAts (a ++ b) = rAts a ++ rAts b := by simp [rAts]
/-- The runs from where they begin. -/
theorem kept_one_ (x y : Int) (Z : List At) : ∀ (l : List S61) (p : Int) (f g : Bool), (∀ r ∈ l, Rn r) → x ≤ p →
    sC (cells (f || g) (rAts (keptS p x y l) ++ .mark :: Z)) = sC (cells f (cAts ((cells g (rAts l)).1.take (y - p).toNat) ++ .mark :: Z))
  | [], p, f, g, _, _ => by simp [keptS, rAts, cells, cAts]
  | r :: l, p, f, g, hR, hx => by
    have hr := hR r List.mem_cons_self
    have h0 := rsz_pos hr
    have IH := fun p f g => kept_one_ x y Z l p f g (fun z hz => hR z (List.mem_cons_of_mem _ hz))
    rw [rAts_cons]
    by_cases hp : p ≤ y
    · simp only [keptS]
      rw [if_pos hp]
      by_cases hz : rsz r = 0
      · rw [if_pos ⟨hz, hx⟩, if_neg (by omega), rn_zero hr hz]
        simp only [List.append_nil, List.cons_append, List.nil_append]
        rw [rAts_cons, rn_zero hr hz]
        simp only [List.cons_append, List.nil_append, cells]
        have := IH (p + rsz r) f true (by omega)
        rw [show (y - (p + rsz r)).toNat = (y - p).toNat by omega] at this
        simpa using this
      · rw [if_neg (fun h => hz h.1), List.nil_append, cells_run g r _ hr (by omega), show max (x - p) 0 = 0 by omega]
        have hlen := crow_len g r hr
        by_cases hy : rsz r ≤ y - p
        · rw [if_pos (by omega), show min (y - p) (rsz r) = rsz r by omega]
          have ih := IH (p + rsz r) false false (by omega)
          have := piece_cells r hr 0 (rsz r) (by omega) (by omega) (Int.le_refl _) f g _ _ ih
          rw [if_pos rfl] at this
          rw [rAts_append, rAts_cons]
          simp only [rAts, List.flatMap_nil, List.append_nil, List.append_assoc] at this ⊢
          rw [this]
          simp only [Int.toNat_zero, List.drop_zero]
          rw [List.take_of_length_le (l := crow g r) (i := (rsz r - 0).toNat) (by omega), List.take_append, List.take_of_length_le (l := crow g r) (i := (y - p).toNat) (by omega), show (y - p).toNat - (crow g r).length = (y - (p + rsz r)).toNat by omega]
          have e : cAts (crow g r ++ List.take (y - (p + rsz r)).toNat (cells false (List.flatMap rAt l)).1) = cAts (crow g r) ++ cAts (List.take (y - (p + rsz r)).toNat (cells false (List.flatMap rAt l)).1) := by simp [cAts]
          rw [e, List.append_assoc]
        · rw [keptS_past x y l (p + rsz r) (by omega), List.append_nil, List.take_append_of_le_length (by omega)]
          by_cases hd : p < y
          · rw [if_pos (by omega), show min (y - p) (rsz r) = y - p by omega]
            have := piece_cells r hr 0 (y - p) (by omega) (by omega) (by omega) f g (.mark :: Z) (.mark :: Z) rfl
            rw [if_pos rfl] at this
            simp only [rAts, List.flatMap_cons, List.flatMap_nil, List.append_nil]
            simpa using this
          · rw [if_neg (by omega), show (y - p).toNat = 0 by omega]
            simp [rAts, cAts, cells]
    · rw [keptS_past x y (r :: l) p (by omega), show (y - p).toNat = 0 by omega]
      simp [rAts, cAts, cells]
/-- The runs from a place behind their beginning. -/
theorem kept_two (x y : Int) (hxy : x ≤ y) (Z : List At) : ∀ (l : List S61) (p : Int) (f g : Bool), (∀ r ∈ l, Rn r) → p < x →
    sC (cells f (rAts (keptS p x y l) ++ .mark :: Z)) = sC (cells f (cAts (((cells g (rAts l)).1.drop (x - p).toNat).take (y - x).toNat) ++ .mark :: Z))
  | [], p, f, g, _, _ => by simp [keptS, rAts, cells, cAts]
  | r :: l, p, f, g, hR, hx => by
    have hr := hR r List.mem_cons_self
    have hR' := fun z hz => hR z (List.mem_cons_of_mem r hz)
    have h0 := rsz_pos hr
    by_cases h1 : p + rsz r < x
    · rw [kept_skip x y r l p hr h1 hxy, rAts_cons]
      by_cases hz : rsz r = 0
      · rw [rn_zero hr hz]
        simp only [List.cons_append, List.nil_append, cells]
        have := kept_two x y hxy Z l (p + rsz r) f true hR' h1
        rw [show (x - (p + rsz r)).toNat = (x - p).toNat by omega] at this
        exact this
      · rw [cells_run g r _ hr (by omega)]
        have hlen := crow_len g r hr
        have := kept_two x y hxy Z l (p + rsz r) f false hR' h1
        rw [this]
        simp only
        rw [List.drop_append, @List.drop_eq_nil_of_le _ (crow g r) _ (by omega), List.nil_append, show (x - p).toNat - (crow g r).length = (x - (p + rsz r)).toNat by omega]
    · have hz : 0 < rsz r := by omega
      rw [rAts_cons, cells_run g r _ hr hz]
      have hlen := crow_len g r hr
      simp only [keptS]
      rw [if_pos (by omega), if_neg (fun h => by omega), List.nil_append, show max (x - p) 0 = x - p by omega]
      by_cases h2 : p + rsz r = x
      · rw [if_neg (by omega), List.nil_append, List.drop_append, List.drop_eq_nil_of_le (by omega), List.nil_append, show (x - p).toNat - (crow g r).length = 0 by omega, List.drop_zero]
        have := kept_one_ x y Z l (p + rsz r) f false hR' (by omega)
        rw [Bool.or_false] at this
        rw [this, show (y - (p + rsz r)).toNat = (y - x).toNat by omega]
      · rw [List.drop_append_of_le_length (by omega)]
        by_cases h3 : p + rsz r ≤ y
        · rw [if_pos (by omega), show min (y - p) (rsz r) = rsz r by omega]
          have ih := kept_one_ x y Z l (p + rsz r) false false hR' (by omega)
          have := piece_cells r hr (x - p) (rsz r) (by omega) (by omega) (Int.le_refl _) f g _ _ ih
          rw [if_neg (by omega)] at this
          rw [rAts_append, rAts_cons]
          simp only [rAts, List.flatMap_nil, List.append_nil, List.append_assoc] at this ⊢
          rw [this]
          have hdl : ((crow g r).drop (x - p).toNat).length = (rsz r - (x - p)).toNat := by rw [List.length_drop]; omega
          rw [List.take_of_length_le (l := (crow g r).drop (x - p).toNat) (i := (rsz r - (x - p)).toNat) (by omega), List.take_append, List.take_of_length_le (l := (crow g r).drop (x - p).toNat) (i := (y - x).toNat) (by omega), show (y - x).toNat - ((crow g r).drop (x - p).toNat).length = (y - (p + rsz r)).toNat by omega]
          have e : ∀ (A B : List Cl), cAts (A ++ B) = cAts A ++ cAts B := fun A B => by simp [cAts]
          rw [e, List.append_assoc]
        · rw [keptS_past x y l (p + rsz r) (by omega), List.append_nil, List.take_append_of_le_length (by rw [List.length_drop]; omega)]
          by_cases hd : x < y
          · rw [if_pos (by omega), show min (y - p) (rsz r) = y - p by omega]
            have := piece_cells r hr (x - p) (y - p) (by omega) (by omega) (by omega) f g (.mark :: Z) (.mark :: Z) rfl
            rw [if_neg (by omega), show (y - p - (x - p)).toNat = (y - x).toNat by omega] at this
            simp only [rAts, List.flatMap_cons, List.flatMap_nil, List.append_nil]
            exact this
          · rw [if_neg (by omega), show (y - x).toNat = 0 by omega]
            simp [rAts, cAts, cells]
end Go.Proofs.Ytaihajmdngoeiaa.Q

namespace Go.Proofs.Ytaihajmdngoeiaa.Q
open Go.RowKit Go.Proofs.YtaihajmdngoeiaaW.PrintWords Go.Proofs.YtaihajmdngoeiaaW.PrintLast Go.Proofs.YtaihajmdngoeiaaW.PrintMore
open Go.Proofs.Ytaihajmdngoeiaa.F
set_option linter.unusedVariables false
set_option linter.unusedSimpArgs false

def edOf (e : S42) : Ed := ⟨e.f0, e.f1, e.f2.data.toList⟩
def toS (e : Ed) : S42 := ⟨e.a, e.b, ⟨e.t.toArray⟩⟩
theorem toS_edOf (e : S42) : toS (edOf e) = e := rfl
/-- What the reference makes of a row and a list of edits. -/
def doneC (l : List S61) (size : Int) : Int → List S42 → List S61
  | p, [] => keptS 0 p size l
  | p, e :: t => keptS 0 p e.f0 l ++ ⟨false, 0, 0, e.f2⟩ :: doneC l size e.f1 t
theorem sum_pos : ∀ l : List S61, (∀ r ∈ l, Rn r) → 0 ≤ sum_ l
  | [], _ => Int.le_refl _
  | r :: l, h => by
    have := rsz_pos (h r List.mem_cons_self)
    have := sum_pos l (fun x hx => h x (List.mem_cons_of_mem _ hx))
    simp only [sum_]
    omega
/-- The last runs. -/
theorem kept_end (x y : Int) (hxy : x ≤ y) : ∀ (l : List S61) (p : Int) (f g : Bool), (∀ r ∈ l, Rn r) → p < x → p + sum_ l = y →
    sC (cells f (rAts (keptS p x y l))) = sC (cells f (cAts ((cells g (rAts l)).1.drop (x - p).toNat) ++ fAt (cells g (rAts l)).2))
  | [], p, f, g, _, h, hs => by
    simp only [sum_] at hs
    omega
  | r :: l, p, f, g, hR, hx, hs => by
    have hr := hR r List.mem_cons_self
    have hR' := fun z hz => hR z (List.mem_cons_of_mem r hz)
    have h0 := rsz_pos hr
    simp only [sum_] at hs
    by_cases h1 : p + rsz r < x
    · rw [kept_skip x y r l p hr h1 hxy, rAts_cons]
      by_cases hz : rsz r = 0
      · rw [rn_zero hr hz]
        simp only [List.cons_append, List.nil_append, cells]
        have := kept_end x y hxy l (p + rsz r) f true hR' h1 (by omega)
        rw [show (x - (p + rsz r)).toNat = (x - p).toNat by omega] at this
        exact this
      · rw [cells_run g r _ hr (by omega)]
        have hlen := crow_len g r hr
        have := kept_end x y hxy l (p + rsz r) f false hR' h1 (by omega)
        rw [this]
        simp only
        rw [List.drop_append, @List.drop_eq_nil_of_le _ (crow g r) _ (by omega), List.nil_append, show (x - p).toNat - (crow g r).length = (x - (p + rsz r)).toNat by omega]
    · have hz : 0 < rsz r := by omega
      rw [rAts_cons, cells_run g r _ hr hz]
      have hlen := crow_len g r hr
      have hal := kept_all x y l (p + rsz r) hR' (by omega) (by omega)
      have hsl := sum_pos l hR'
      simp only [keptS]
      rw [if_pos (by omega), if_neg (fun h => by omega), List.nil_append, show max (x - p) 0 = x - p by omega, hal]
      have hca := cells_again (rAts l) false false
      by_cases h2 : p + rsz r = x
      · rw [if_neg (by omega), List.nil_append, List.drop_append, @List.drop_eq_nil_of_le _ (crow g r) _ (by omega), List.nil_append, show (x - p).toNat - (crow g r).length = 0 by omega, List.drop_zero]
        have := cells_again (rAts l) f false
        rw [Bool.or_false] at this
        rw [this]
      · rw [List.drop_append_of_le_length (by omega), if_pos (by omega), show min (y - p) (rsz r) = rsz r by omega]
        have := piece_cells r hr (x - p) (rsz r) (by omega) (by omega) (Int.le_refl _) f g (rAts l) (cAts (cells false (rAts l)).1 ++ fAt (cells false (rAts l)).2) (by rw [hca]; rfl)
        rw [if_neg (by omega)] at this
        rw [rAts_append, rAts_cons]
        simp only [rAts, List.flatMap_nil, List.append_nil, List.append_assoc] at this ⊢
        rw [this]
        have hdl : ((crow g r).drop (x - p).toNat).length = (rsz r - (x - p)).toNat := by rw [List.length_drop]; omega
        rw [List.take_of_length_le (l := (crow g r).drop (x - p).toNat) (i := (rsz r - (x - p)).toNat) (by omega)]
        have e : ∀ (A B : List Cl), cAts (A ++ B) = cAts A ++ cAts B := fun A B => by simp [cAts]
        rw [e, List.append_assoc]
def Sd (size : Int) : Int → List S42 → Prop
  | p, [] => p ≤ size
  | p, e :: t => p ≤ e.f0 ∧ e.f0 ≤ e.f1 ∧ Sd size e.f1 t
/-- The reference's row is the row, but for what is told ahead of new bytes. -/
theorem doneC_cells (l : List S61) (size : Int) (hR : ∀ r ∈ l, Rn r) (hs : sum_ l = size) : ∀ (es : List S42) (p : Int) (f : Bool), 0 ≤ p → Sd size p es →
    sC (cells f (rAts (doneC l size p es))) = sC (cells f (cmp p ((cells false (rAts l)).1.drop p.toNat, (cells false (rAts l)).2) (es.map edOf)))
  | [], p, f, hp, h => by
    have hp2 : p ≤ size := h
    simp only [doneC, List.map_nil, cmp]
    by_cases hz : p = 0
    · subst hz
      rw [kept_all 0 size l 0 hR (Int.le_refl _) (by omega)]
      simp only [Int.toNat_zero, List.drop_zero]
      have := cells_again (rAts l) f false
      rw [Bool.or_false] at this
      rw [this]
    · have := kept_end p size hp2 l 0 f false hR (by omega) (by omega)
      rw [Int.sub_zero] at this
      exact this
  | e :: t, p, f, hp, h => by
    obtain ⟨h1, h2, h3⟩ := h
    have ih := fun g => doneC_cells l size hR hs t e.f1 g (by omega) h3
    simp only [doneC, List.map_cons, cmp]
    rw [rAts_append, rAts_cons]
    have er : rAt ⟨false, 0, 0, e.f2⟩ = .mark :: news e.f2.data.toList := rfl
    rw [er]
    have ed : ((cells false (rAts l)).1.drop p.toNat).drop ((edOf e).b - p).toNat = (cells false (rAts l)).1.drop e.f1.toNat := by
      rw [List.drop_drop]
      congr 1
      show p.toNat + (e.f1 - p).toNat = e.f1.toNat
      omega
    rw [ed]
    have step : sC (cells f (rAts (keptS 0 p e.f0 l) ++ .mark :: (news e.f2.data.toList ++ rAts (doneC l size e.f1 t)))) = sC (cells f (cAts (((cells false (rAts l)).1.drop p.toNat).take (e.f0 - p).toNat) ++ .mark :: (news e.f2.data.toList ++ rAts (doneC l size e.f1 t)))) := by
      by_cases hz : p = 0
      · subst hz
        have := kept_one_ 0 e.f0 (news e.f2.data.toList ++ rAts (doneC l size e.f1 t)) l 0 f false hR (Int.le_refl _)
        rw [Bool.or_false] at this
        simpa using this
      · have := kept_two p e.f0 h1 (news e.f2.data.toList ++ rAts (doneC l size e.f1 t)) l 0 f false hR (by omega)
        rw [Int.sub_zero] at this
        exact this
    have e5 : rAts (keptS 0 p e.f0 l) ++ (At.mark :: news e.f2.data.toList ++ rAts (doneC l size e.f1 t)) = rAts (keptS 0 p e.f0 l) ++ .mark :: (news e.f2.data.toList ++ rAts (doneC l size e.f1 t)) := by simp
    rw [e5, step]
    have e6 : ∀ X, cAts (((cells false (rAts l)).1.drop p.toNat).take (e.f0 - p).toNat) ++ At.mark :: (news e.f2.data.toList ++ X) = (cAts (((cells false (rAts l)).1.drop p.toNat).take (e.f0 - p).toNat) ++ .mark :: news e.f2.data.toList) ++ X := fun X => by simp
    show _ = sC (cells f (cAts (((cells false (rAts l)).1.drop p.toNat).take (e.f0 - p).toNat) ++ At.mark :: (news e.f2.data.toList ++ cmp e.f1 ((cells false (rAts l)).1.drop e.f1.toNat, (cells false (rAts l)).2) (t.map edOf))))
    rw [e6, e6]
    exact sC_right _ _ _ f ih
/-- The reference's row of a whole text behind a list is the list's row. -/
theorem idr_take (p q n : Int) (h : q ≤ n) : (idr p n).1.take (q - p).toNat = oCs p q := by
  apply List.ext_getElem
  · simp [idr, oCs]; omega
  · intro i h3 h4
    simp [idr, oCs] at h3 h4 ⊢
theorem segs_at (n : Int) : ∀ (es : List S42) (p : Int), Cz n p (es.map edOf) → p ≤ n → rAts (segs n p es) = cmp p (idr p n) (es.map edOf)
  | [], p, h, hp => by
    simp only [segs, List.map_nil]
    rw [cmp_nil]
    have e : (idr p n).1 = oCs p n := by
      rw [← idr_take p n n (Int.le_refl _), List.take_of_length_le (by simp [idr])]
    unfold kp
    by_cases hl : p < n
    · rw [if_pos hl, e, ← oAt_cAts]
      simp [rAts, rAt]
    · rw [if_neg hl, idr_nil p n (by omega)]
      rfl
  | e :: t, p, h, hp => by
    obtain ⟨c1, c2, c3, c4⟩ := h
    have c1' : p ≤ e.f0 := c1
    have c2' : e.f0 ≤ e.f1 := c2
    have c3' : e.f1 ≤ n := c3
    have ih := segs_at n t e.f1 (Ch.cz c4 c3) c3
    simp only [segs, List.map_cons]
    rw [cmp_cons p n (edOf e) _ (by show p ≤ e.f1; omega)]
    show _ = cAts ((idr p n).1.take (e.f0 - p).toNat) ++ At.mark :: (news e.f2.data.toList ++ cmp e.f1 (idr e.f1 n) (t.map edOf))
    rw [idr_take p e.f0 n (by omega), ← oAt_cAts, rAts_append, rAts_cons, ih]
    have er : rAt ⟨false, 0, 0, e.f2⟩ = .mark :: news e.f2.data.toList := rfl
    rw [er]
    unfold kp
    by_cases hl : p < e.f0
    · rw [if_pos hl]
      simp [rAts, rAt]
    · rw [if_neg hl]
      have : oAt p e.f0 = [] := by unfold oAt; rw [show (e.f0 - p).toNat = 0 by omega]; rfl
      rw [this]
      simp [rAts]
end Go.Proofs.Ytaihajmdngoeiaa.Q

namespace Go.Proofs.Ytaihajmdngoeiaa.Q
open Go.RowKit Go.Proofs.YtaihajmdngoeiaaW.PrintWords Go.Proofs.YtaihajmdngoeiaaW.PrintLast Go.Proofs.YtaihajmdngoeiaaW.PrintMore
open Go.Proofs.Ytaihajmdngoeiaa.F
set_option linter.unusedVariables false
set_option linter.unusedSimpArgs false

theorem grw_ed (e : S42) : grw (edOf e) = grow e := by
  unfold grw edOf grow
  have : e.f2.data.toList.length = e.f2.size := by simp
  show (e.f2.data.toList.length : Int) - (e.f1 - e.f0) = _
  rw [this]
/-- The program's gathering: where it stands. -/
structure GS where
  lo : Int
  hi : Int
  sh : Int
  first : List S67
  second : List S42
  a : List S42
  b : List S42
def P67 (x : Int) (e : S42) : S67 := ⟨x, e.f0, e.f1, e.f2⟩
def takesA (lo hi sh : Int) (e : S42) (b : List S42) : Bool :=
  (decide (lo < 0) && (match b with | [] => true | f :: _ => decide (e.f0 + sh ≤ f.f0))) || (decide (0 ≤ lo) && decide (e.f0 + sh ≤ hi))
def nextA (s : GS) (e : S42) (r : List S42) : GS :=
  ⟨if s.lo < 0 then e.f0 + s.sh else s.lo, max s.hi (e.f0 + s.sh + e.f2.size), s.sh + grow e, s.first ++ [P67 (e.f0 + s.sh) e], s.second, r, s.b⟩
def nextB (s : GS) (f : S42) (t : List S42) : GS := ⟨if s.lo < 0 then f.f0 else s.lo, max s.hi f.f1, s.sh, s.first, s.second ++ [f], s.a, t⟩
def stepB (s : GS) : Option GS := match s.b with
  | [] => none
  | f :: t => if s.lo < 0 ∨ f.f0 ≤ s.hi then some (nextB s f t) else none
def stepG (s : GS) : Option GS := match s.a with
  | [] => stepB s
  | e :: r => if takesA s.lo s.hi s.sh e s.b = true then some (nextA s e r) else stepB s
def gS : Nat → GS → GS
  | 0, s => s
  | k + 1, s => match stepG s with
    | none => s
    | some s' => gS k s'
def place : Int → List S42 → List S67
  | _, [] => []
  | sh, e :: r => P67 (e.f0 + sh) e :: place (sh + grow e) r
theorem place_snoc : ∀ (l : List S42) (sh : Int) (e : S42), place sh (l ++ [e]) = place sh l ++ [P67 (e.f0 + (sh + sumG l)) e]
  | [], sh, e => by simp [place, sumG]
  | x :: l, sh, e => by
    simp only [List.cons_append, place, sumG, place_snoc l]
    rw [show sh + grow x + sumG l = sh + (grow x + sumG l) by omega]
theorem gS_gatL (sh0 : Int) : ∀ (k : Nat) (s : GS) (A1 : List S42), 0 ≤ s.lo → s.first = place sh0 A1 → s.sh = sh0 + sumG A1 →
    ∃ A2, (gS k s).first = place sh0 A2 ∧ (gS k s).sh = sh0 + sumG A2 ∧ (gS k s).lo = s.lo ∧
      gatL k s.hi (A1.map edOf) (s.second.map edOf) (s.a.map edOf) (s.b.map edOf) s.sh = ((gS k s).hi, A2.map edOf, (gS k s).second.map edOf, (gS k s).a.map edOf, (gS k s).b.map edOf)
  | 0, s, A1, h0, h1, h2 => ⟨A1, h1, h2, rfl, by simp only [gatL]; rfl⟩
  | k + 1, s, A1, h0, h1, h2 => by
    obtain ⟨lo, hi, sh, first, second, a, b⟩ := s
    simp only at h0 h1 h2
    have n0 : ¬ lo < 0 := by omega
    -- taken from b
    have hB : ∀ (a : List S42), (∀ e r, a = e :: r → ¬ e.f0 + sh ≤ hi) → ∃ A2, (match stepB ⟨lo, hi, sh, first, second, a, b⟩ with | none => (⟨lo, hi, sh, first, second, a, b⟩ : GS) | some s' => gS k s').first = place sh0 A2 ∧ (match stepB ⟨lo, hi, sh, first, second, a, b⟩ with | none => (⟨lo, hi, sh, first, second, a, b⟩ : GS) | some s' => gS k s').sh = sh0 + sumG A2 ∧ (match stepB ⟨lo, hi, sh, first, second, a, b⟩ with | none => (⟨lo, hi, sh, first, second, a, b⟩ : GS) | some s' => gS k s').lo = lo ∧
        gatL (k + 1) hi (A1.map edOf) (second.map edOf) (a.map edOf) (b.map edOf) sh = ((match stepB ⟨lo, hi, sh, first, second, a, b⟩ with | none => (⟨lo, hi, sh, first, second, a, b⟩ : GS) | some s' => gS k s').hi, A2.map edOf, (match stepB ⟨lo, hi, sh, first, second, a, b⟩ with | none => (⟨lo, hi, sh, first, second, a, b⟩ : GS) | some s' => gS k s').second.map edOf, (match stepB ⟨lo, hi, sh, first, second, a, b⟩ with | none => (⟨lo, hi, sh, first, second, a, b⟩ : GS) | some s' => gS k s').a.map edOf, (match stepB ⟨lo, hi, sh, first, second, a, b⟩ with | none => (⟨lo, hi, sh, first, second, a, b⟩ : GS) | some s' => gS k s').b.map edOf) := by
      intro a hna
      have hg : ∀ (Y : Int × List Ed × List Ed × List Ed × List Ed), (match b.map edOf with | [] => (hi, A1.map edOf, second.map edOf, a.map edOf, b.map edOf) | f :: s => if f.a ≤ hi then gatL k (max hi f.b) (A1.map edOf) (second.map edOf ++ [f]) (a.map edOf) s sh else (hi, A1.map edOf, second.map edOf, a.map edOf, b.map edOf)) = Y → gatL (k + 1) hi (A1.map edOf) (second.map edOf) (a.map edOf) (b.map edOf) sh = Y := by
        intro Y hY
        rw [← hY]
        cases a with
        | nil => cases b <;> simp only [List.map_nil, List.map_cons, gatL]
        | cons e r =>
          have hne := hna e r rfl
          have : ¬ (edOf e).a + sh ≤ hi := hne
          cases b with
          | nil => simp only [List.map_nil, List.map_cons, gatL, if_neg this]
          | cons f t => simp only [List.map_nil, List.map_cons, gatL, if_neg this]
      cases b with
      | nil => exact ⟨A1, h1, h2, rfl, hg _ rfl⟩
      | cons f t =>
        by_cases hf : f.f0 ≤ hi
        · have e1 : stepB ⟨lo, hi, sh, first, second, a, f :: t⟩ = some (nextB ⟨lo, hi, sh, first, second, a, f :: t⟩ f t) := by
            show (if lo < 0 ∨ f.f0 ≤ hi then some _ else none) = _
            rw [if_pos (Or.inr hf)]
          simp only [e1]
          obtain ⟨A2, i1, i2, i3, i4⟩ := gS_gatL sh0 k (nextB ⟨lo, hi, sh, first, second, a, f :: t⟩ f t) A1 (by show 0 ≤ if lo < 0 then f.f0 else lo; rw [if_neg n0]; exact h0) h1 h2
          refine ⟨A2, i1, i2, by rw [i3]; show (if lo < 0 then f.f0 else lo) = lo; rw [if_neg n0], hg _ ?_⟩
          simp only [List.map_cons]
          rw [if_pos (show (edOf f).a ≤ hi from hf), ← i4]
          show gatL k (max hi f.f1) _ _ _ _ _ = gatL k (max hi f.f1) _ ((second ++ [f]).map edOf) _ _ _
          rw [List.map_append]
          rfl
        · have e1 : stepB ⟨lo, hi, sh, first, second, a, f :: t⟩ = none := by
            show (if lo < 0 ∨ f.f0 ≤ hi then some _ else none) = _
            rw [if_neg (by omega)]
          simp only [e1]
          refine ⟨A1, h1, h2, trivial, hg _ ?_⟩
          simp only [List.map_cons]
          rw [if_neg (show ¬ (edOf f).a ≤ hi from hf)]
    cases a with
    | nil =>
      have := hB [] (fun e r h => by cases h)
      exact this
    | cons e r =>
      by_cases he : e.f0 + sh ≤ hi
      · have e1 : stepG ⟨lo, hi, sh, first, second, e :: r, b⟩ = some (nextA ⟨lo, hi, sh, first, second, e :: r, b⟩ e r) := by
          show (if takesA lo hi sh e b = true then some _ else _) = _
          rw [if_pos]
          unfold takesA
          rw [decide_eq_true h0, decide_eq_true he]
          simp
        simp only [gS, e1]
        obtain ⟨A2, i1, i2, i3, i4⟩ := gS_gatL sh0 k (nextA ⟨lo, hi, sh, first, second, e :: r, b⟩ e r) (A1 ++ [e]) (by show 0 ≤ if lo < 0 then e.f0 + sh else lo; rw [if_neg n0]; exact h0)
          (by show first ++ [P67 (e.f0 + sh) e] = _; rw [place_snoc, h1, h2]) (by show sh + grow e = _; rw [sumG_append, h2]; simp only [sumG]; omega)
        refine ⟨A2, i1, i2, by rw [i3]; show (if lo < 0 then e.f0 + sh else lo) = lo; rw [if_neg n0], ?_⟩
        rw [← i4]
        simp only [List.map_cons, gatL]
        rw [if_pos (show (edOf e).a + sh ≤ hi from he), grw_ed]
        show gatL k (max hi (e.f0 + sh + (e.f2.data.toList.length : Int))) _ _ _ _ _ = gatL k (max hi (e.f0 + sh + (e.f2.size : Int))) ((A1 ++ [e]).map edOf) _ _ _ _
        rw [List.map_append, show e.f2.data.toList.length = e.f2.size by simp]
        rfl
      · have e1 : stepG ⟨lo, hi, sh, first, second, e :: r, b⟩ = stepB ⟨lo, hi, sh, first, second, e :: r, b⟩ := by
          show (if takesA lo hi sh e b = true then some _ else _) = _
          rw [if_neg]
          unfold takesA
          rw [decide_eq_false n0, decide_eq_false he]
          simp
        simp only [gS, e1]
        exact hB (e :: r) (fun e' r' h => by cases h; exact he)
end Go.Proofs.Ytaihajmdngoeiaa.Q

namespace Go.Proofs.Ytaihajmdngoeiaa.Q
open Go.RowKit Go.Proofs.YtaihajmdngoeiaaW.PrintWords Go.Proofs.YtaihajmdngoeiaaW.PrintLast Go.Proofs.YtaihajmdngoeiaaW.PrintMore
open Go.Proofs.Ytaihajmdngoeiaa.F

theorem shift_step (s : Int) (e : S42) : wrap64 (wrap64 s + growsOf e) = wrap64 (s + grow e) := by unfold growsOf grow wrap64; omega

end Go.Proofs.Ytaihajmdngoeiaa.Q

-- A text of this session's own program (wip/myprint.sh over a changed print tool): functions and their walks
namespace Go.Proofs.Ytaihajmdngoeiaa.F
open Go.RowKit Go.Proofs.YtaihajmdngoeiaaW.PrintWords Go.Proofs.YtaihajmdngoeiaaW.PrintLast Go.Proofs.YtaihajmdngoeiaaW.PrintMore
attribute [local go_sem] max2_int min2_int max_two min_two max_three min_three max_four min_four   -- for this text's walks alone
set_option linter.unusedVariables false
set_option linter.unusedSimpArgs false

/-! ### edits_left: function 38 -/
def edits_left.l0 : Nat → Int → List (S42) → Int → Int → Option (Int)
  | 0, _, _, _, _ => none
  | k + 1, x0, x7, x8, x9 => if x9 < x8 then (if 0 ≤ x9 then (if x9 < (x7.length : Int) then ((edits_grows.f ((rd_T42 x7 x9).f0) ((rd_T42 x7 x9).f1) ((rd_T42 x7 x9).f2)).bind fun t281 => (edits_left.l0 k (wrap64 (x0 + t281)) x7 x8 (wrap64 (x9 + 1)))) else (none)) else (none)) else (some x0)
def edits_left.f (k : Nat) (a0 : Int) (l1 : List (S42)) : Option (Int) := edits_left.l0 k a0 l1 (l1.length : Int) 0
set_option maxHeartbeats 8000000 in
set_option maxRecDepth 100000 in
theorem edits_left.calls (k : Nat) (a0 : Int) (A1 : Option Addr) (c1 : Nat) (l1 : List (S42)) (r : Int) (w : World) (hr1 : Kd.C k42 w A1 l1.length l1) (hc1 : l1.length ≤ c1) (h : edits_left.f k a0 l1 = some r) :
    Calls Try.prog 38 #[.int .i64 a0, .slice A1 l1.length c1] w fun e w' => e = .returned (.int .i64 r) ∧ Below w.heap.size w w' := by
  have hu42 := Try.underlying42
  have HR1 := Aside0.mk hr1
  have HC1 := Aside0.mk hc1
  clear hr1 hc1
  have HB := Aside0.mk (Below.refl w.heap.size w)
  have H : (edits_left.l0 k a0 l1 (l1.length : Int) 0) = some r := h
  clear h
  have H' := Aside0.mk H
  clear H
  go_enter Try.func38, Try.ntmps38
  go_wp2
  go_loopg [0, 9] k (fun kq v0 v9 w' => ∃ (x0_1 : Int) (x9_1 : Int), v0 = .int .i64 x0_1 ∧ v9 = .int .i64 x9_1 ∧ Aside0 (edits_left.l0 kq x0_1 l1 (l1.length : Int) x9_1 = some r) ∧ Aside0 (kq ≤ k) ∧ Aside0 (Below w.heap.size w w'))
  case atStart => exact ⟨(a0), (0), (by first | rfl | (simp; done) | (simp [*]; done)), (by first | rfl | (simp; done) | (simp [*]; done)), H', ⟨Nat.le_refl _⟩, ⟨by repeat (first | (with_reducible first | exact HB.out | apply below_alloc | apply pw_below_drewN | apply below_drew1) | exact HB.out)⟩⟩
  case round =>
    clear H'
    try clear c1
    try clear p2
    obtain ⟨x0_1, x9_1, rfl, rfl, HA, HK1, HB⟩ := hrel
    cases gk with
    | zero => exact absurd HA.out (by simp [edits_left.l0])
    | succ k1 =>
      have H := HA.out
      clear HA
      simp only [edits_left.l0] at H
      by_cases c3 : x9_1 < (l1.length : Int)
      · rw [if_pos c3] at H
        have c3b0 : decide (x9_1 < (l1.length : Int)) = true := decide_eq_true c3
        clear c3
        by_cases c4 : 0 ≤ x9_1
        · rw [if_pos c4] at H
          have c4b0 : decide (0 ≤ x9_1) = true := decide_eq_true c4
          clear c4
          by_cases c5 : x9_1 < (l1.length : Int)
          · rw [if_pos c5] at H
            have c5b0 : decide (x9_1 < (l1.length : Int)) = true := decide_eq_true c5
            clear c5
            replace H := Option.bind_eq_some_iff.mp H
            obtain ⟨t281, A60, H⟩ := H
            replace H : (edits_left.l0 k1 (wrap64 (x0_1 + t281)) l1 (l1.length : Int) (wrap64 (x9_1 + 1))) = some r := H
            have A6 := Aside0.mk A60
            clear A60
            have H' := Aside0.mk H
            clear H
            have p279 : 0 ≤ (x9_1 : Int) := of_decide_eq_true (by first | (with_reducible assumption) | assumption)
            have q279 : x9_1 < (l1.length : Int) := of_decide_eq_true (by first | (with_reducible assumption) | assumption)
            obtain ⟨ad279, e279, hx279_0, hx279_1, hx279_2⟩ := at_T42 HR1.out x9_1 p279 q279
            cases e279
            replace hx279_0 := (HB.out.cell (World.block_lt_of_cell? w _ hx279_0)).trans hx279_0
            replace hx279_1 := (HB.out.cell (World.block_lt_of_cell? w _ hx279_1)).trans hx279_1
            replace hx279_2 := (HB.out.cell (World.block_lt_of_cell? w _ hx279_2)).trans hx279_2
            replace p279 := eq_true p279
            replace q279 := eq_true q279
            go_wp2_with (first | ((with_reducible refine gate_dst (N := 6) rfl ?_); refine box_event ?hg (N := 6) ?hd (cs := #[.int .i64 0, .int .i64 0, .string (⟨#[]⟩ : ByteArray)]) (t := 42) ?hr ?_; (case hd => rfl); (case hg => rfl); (case hr => first | (go_simp; done) | (go_simp; rfl)); intro gb280 hg w7 hbox hb; have n0_ := Aside0.mk (below_step (by repeat (first | (with_reducible first | exact HB.out | apply below_alloc | apply pw_below_drewN | apply below_drew1) | exact HB.out)) hb); have n1_ := Aside0.mk (hbox); have n2_ := Aside0.mk ((by rw [hg]; exact (below_size (by repeat (first | (with_reducible first | exact HB.out | apply below_alloc | apply pw_below_drewN | apply below_drew1) | exact HB.out))) : w.heap.size ≤ gb280)); have n3_ := Aside0.mk ((by rw [hg]; exact (below_size (by repeat (first | (with_reducible first | exact HB.out | apply below_alloc | apply pw_below_drewN | apply below_drew1) | exact HB.out))) : w.heap.size ≤ gb280)); clear HB; have HB := n0_; have BK280 := n1_; have GW280 := n2_; have GE280 := n3_; clear n0_ n1_ n2_ n3_; clear hb hbox hg; have hcz8_0 : w7.cell? ⟨gb280, 0, none⟩ = some (.int .i64 0) := (blk_cell BK280.out 0).trans rfl; have hcz8_1 : w7.cell? ⟨gb280, 1, none⟩ = some (.int .i64 0) := (blk_cell BK280.out 1).trans rfl; have hcz8_2 : w7.cell? ⟨gb280, 2, none⟩ = some (.string (⟨#[]⟩ : ByteArray)) := (blk_cell BK280.out 2).trans rfl; have hfz8_0 := blk_frozen BK280.out 0; have hfz8_1 := blk_frozen BK280.out 1; have hfz8_2 := blk_frozen BK280.out 2) | ((with_reducible refine gate_callee (f := 34) rfl ?_); refine goesL_ (some 15) rfl rfl Try.func34 (by kernel_rfl) rfl #[.agg #[.int .i64 ((rd_T42 l1 x9_1).f0), .int .i64 ((rd_T42 l1 x9_1).f1), .string ((rd_T42 l1 x9_1).f2)]] rfl (by (try simp only [List.map_toArray, List.map_cons, List.map_nil]); first | done | rfl | (simp only [List.length_drop, List.length_take]; rfl)) ?_; (with_reducible refine (edits_grows.calls ((rd_T42 l1 x9_1).f0) ((rd_T42 l1 x9_1).f1) ((rd_T42 l1 x9_1).f2) t281 _ A6.out).mono ?_); rintro e w9 ⟨rfl, hb⟩; refine ⟨_, rfl, ?_⟩; have n0_ := Aside0.mk (blk_below (g := gb280) (o := .cells #[.int .i64 ((rd_T42 l1 x9_1).f0), .int .i64 ((rd_T42 l1 x9_1).f1), .string ((rd_T42 l1 x9_1).f2)] 42 (0, 0)) (by (with_reducible repeat (first | refine blk_drewN ?_ _ | refine blk_drew ?_ | refine blk_alloc ?_ _)); refine blk_put (cs := #[.int .i64 ((rd_T42 l1 x9_1).f0), .int .i64 ((rd_T42 l1 x9_1).f1), .string (⟨#[]⟩ : ByteArray)]) ?_ 2 _ rfl; (with_reducible repeat (first | refine blk_drewN ?_ _ | refine blk_drew ?_ | refine blk_alloc ?_ _)); refine blk_put (cs := #[.int .i64 ((rd_T42 l1 x9_1).f0), .int .i64 0, .string (⟨#[]⟩ : ByteArray)]) ?_ 1 _ rfl; (with_reducible repeat (first | refine blk_drewN ?_ _ | refine blk_drew ?_ | refine blk_alloc ?_ _)); refine blk_put (cs := #[.int .i64 0, .int .i64 0, .string (⟨#[]⟩ : ByteArray)]) ?_ 0 _ rfl; (with_reducible repeat (first | refine blk_drewN ?_ _ | refine blk_drew ?_ | refine blk_alloc ?_ _)); exact BK280.out) hb); have n1_ := Aside0.mk (below_step (by repeat (first | (with_reducible first | exact HB.out | apply below_alloc | apply pw_below_drewN | apply below_drew1 | refine below_set ?_ GE280.out) | exact HB.out)) hb); clear BK280; clear HB; have BK280 := n0_; have HB := n1_; clear n0_ n1_; (try clear hb); (try clear hb2); (try clear hk); (try clear hi)))
            go_roundg k1
            case measure => have := HK1.out; omega
            case rel => exact ⟨(wrap64 (x0_1 + t281)), (wrap64 (x9_1 + 1)), (by first | rfl | (simp; done) | (simp [*]; done)), (by first | rfl | (simp; done) | (simp [*]; done)), H', ⟨by have := HK1.out; omega⟩, ⟨by repeat (first | (with_reducible first | exact HB.out | apply below_alloc | apply pw_below_drewN | apply below_drew1 | refine below_set ?_ GE280.out) | exact HB.out)⟩⟩
          · rw [if_neg c5] at H
            exact absurd H (by simp)
        · rw [if_neg c4] at H
          exact absurd H (by simp)
      · rw [if_neg c3] at H
        have c3b0 : decide (x9_1 < (l1.length : Int)) = false := decide_eq_false c3
        clear c3
        obtain rfl := Option.some.inj H
        go_wp2
        go_ret
        exact ⟨by first | rfl | (simp [errW_none, errW_some] <;> rfl) | (simp [*, errW_none, errW_some] <;> rfl), by repeat (first | (with_reducible first | exact HB.out | apply below_alloc | apply pw_below_drewN | apply below_drew1) | exact HB.out)⟩

end Go.Proofs.Ytaihajmdngoeiaa.F

namespace Go.Proofs.Ytaihajmdngoeiaa.Q
open Go.RowKit Go.Proofs.YtaihajmdngoeiaaW.PrintWords Go.Proofs.YtaihajmdngoeiaaW.PrintLast Go.Proofs.YtaihajmdngoeiaaW.PrintMore
open Go.Proofs.Ytaihajmdngoeiaa.F

set_option linter.unusedSimpArgs false
theorem sn_bytes (s : ByteArray) : strOfNums (bytesOf s) = s := by
  unfold strOfNums bytesOf
  apply ByteArray.ext
  rw [List.map_map]
  apply Array.ext'
  simp only [List.toList_toArray]
  conv => rhs; rw [← List.map_id s.data.toList]
  apply List.map_congr_left
  intro b _
  simp
theorem left_loop (l : List S42) (hl : l.length ≤ 65536) (d : Nat) : ∀ (i : Nat) (s : Int), i ≤ l.length → l.length - i = d →
    Ev (fun k => edits_left.l0 k (wrap64 s) l (l.length : Int) (i : Int)) (wrap64 (s + sumG (l.drop i))) := by
  induction d with
  | zero =>
    intro i s h1 h2
    refine ⟨1, fun n hn => ?_⟩
    obtain ⟨k, rfl⟩ : ∃ m, n = m + 1 := ⟨n - 1, by omega⟩
    simp only [edits_left.l0]
    rw [if_neg (by omega), List.drop_eq_nil_of_le (by omega)]
    simp [sumG]
  | succ d ih =>
    intro i s h1 h2
    have hi : i < l.length := by omega
    have hw : wrap64 ((i : Int) + 1) = ((i + 1 : Nat) : Int) := by rw [w64] <;> omega
    obtain ⟨K, hK⟩ := ih (i + 1) (s + grow l[i]) (by omega) (by omega)
    refine ⟨K + 1, fun n hn => ?_⟩
    obtain ⟨k, rfl⟩ : ∃ m, n = m + 1 := ⟨n - 1, by omega⟩
    have g := hK k (by omega)
    simp only at g
    simp only [edits_left.l0]
    rw [rd_at l i hi, if_pos (by omega), if_pos (by omega), if_pos (by omega), grows_is]
    simp only [Option.bind_some]
    rw [shift_step, hw, g, List.drop_eq_getElem_cons hi]
    simp only [sumG]
    congr 2
    omega
theorem left_is (size : Int) (h0 : 0 ≤ size) (h1 : size ≤ 4611686018427387904) (l : List S42) (hl : l.length ≤ 65536) : Ev (fun k => edits_left.f k size l) (wrap64 (size + sumG l)) := by
  unfold edits_left.f
  have := left_loop l hl l.length 0 size (by omega) (by omega)
  rw [w64 (x := size) (by omega) (by omega)] at this
  simpa using this

theorem ap_first {size : Int} {p : Option Int} {l : List S42} (hc : Chain size p l) : ∀ e t, l = e :: t → 0 ≤ e.f0 := by
  rintro e t rfl
  exact hc.1
/-- How many bytes the texts of a list have. -/
def tot : List S42 → Nat
  | [] => 0
  | e :: t => e.f2.size + tot t
theorem sumG_tot {size : Int} : ∀ {l : List S42} {p : Option Int}, Chain size p l → sumG l ≤ tot l
  | [], _, _ => by simp [sumG, tot]
  | e :: t, p, ⟨c1, c2, c3, c4, c5⟩ => by
    have := sumG_tot c5
    simp only [sumG, tot, grow]
    omega
theorem sumG_low {size : Int} : ∀ {l : List S42} {p : Option Int} (a : Int), Chain size p l → 0 ≤ a → a ≤ size → (∀ e t, l = e :: t → a ≤ e.f0) → a - size ≤ sumG l
  | [], _, a, _, _, h, _ => by simp only [sumG]; omega
  | e :: t, p, a, ⟨c1, c2, c3, c4, c5⟩, h0, h, hp => by
    have h1 := hp _ _ rfl
    have := sumG_low e.f1 c5 (by omega) c3 (fun e' t' he => by subst he; have := c5.2.2.2.1 _ rfl; omega)
    simp only [sumG, grow]
    omega
end Go.Proofs.Ytaihajmdngoeiaa.Q

namespace Go.Proofs.Ytaihajmdngoeiaa.Q
open Go.RowKit Go.Proofs.YtaihajmdngoeiaaW.PrintWords Go.Proofs.YtaihajmdngoeiaaW.PrintLast Go.Proofs.YtaihajmdngoeiaaW.PrintMore
open Go.Proofs.Ytaihajmdngoeiaa.F
set_option linter.unusedVariables false
set_option linter.unusedSimpArgs false

theorem stepG_a (lo hi sh : Int) (fi : List S67) (se : List S42) (e : S42) (r b : List S42) : stepG ⟨lo, hi, sh, fi, se, e :: r, b⟩ = if takesA lo hi sh e b = true then some (nextA ⟨lo, hi, sh, fi, se, e :: r, b⟩ e r) else stepB ⟨lo, hi, sh, fi, se, e :: r, b⟩ := rfl
/-- A group from its first edit on. -/
theorem gS_gat0 (sh : Int) (a b : List S42) (hne : ¬ (a = [] ∧ b = [])) (ha : ∀ e r, a = e :: r → 0 ≤ e.f0 + sh) (hb : ∀ f t, b = f :: t → 0 ≤ f.f0) :
    ∃ A2, (gS (a.length + b.length + 1) ⟨-1, 0, sh, [], [], a, b⟩).first = place sh A2 ∧ (gS (a.length + b.length + 1) ⟨-1, 0, sh, [], [], a, b⟩).sh = sh + sumG A2 ∧
      gat0 sh (a.map edOf) (b.map edOf) = ((gS (a.length + b.length + 1) ⟨-1, 0, sh, [], [], a, b⟩).lo, ((gS (a.length + b.length + 1) ⟨-1, 0, sh, [], [], a, b⟩).hi, A2.map edOf, (gS (a.length + b.length + 1) ⟨-1, 0, sh, [], [], a, b⟩).second.map edOf, (gS (a.length + b.length + 1) ⟨-1, 0, sh, [], [], a, b⟩).a.map edOf, (gS (a.length + b.length + 1) ⟨-1, 0, sh, [], [], a, b⟩).b.map edOf)) := by
  have n1 : (-1 : Int) < 0 := by decide
  have hA : ∀ (k : Nat) (e : S42) (r b : List S42), 0 ≤ e.f0 + sh → ∃ A2, (gS k (nextA ⟨-1, 0, sh, [], [], e :: r, b⟩ e r)).first = place sh A2 ∧ (gS k (nextA ⟨-1, 0, sh, [], [], e :: r, b⟩ e r)).sh = sh + sumG A2 ∧ (gS k (nextA ⟨-1, 0, sh, [], [], e :: r, b⟩ e r)).lo = e.f0 + sh ∧
      gatL k (max 0 ((edOf e).a + sh + (edOf e).t.length)) [edOf e] [] (r.map edOf) (b.map edOf) (sh + grw (edOf e)) = ((gS k (nextA ⟨-1, 0, sh, [], [], e :: r, b⟩ e r)).hi, A2.map edOf, (gS k (nextA ⟨-1, 0, sh, [], [], e :: r, b⟩ e r)).second.map edOf, (gS k (nextA ⟨-1, 0, sh, [], [], e :: r, b⟩ e r)).a.map edOf, (gS k (nextA ⟨-1, 0, sh, [], [], e :: r, b⟩ e r)).b.map edOf) := by
    intro k e r b h0
    obtain ⟨A2, i1, i2, i3, i4⟩ := gS_gatL sh k (nextA ⟨-1, 0, sh, [], [], e :: r, b⟩ e r) [e] (by show 0 ≤ if (-1 : Int) < 0 then e.f0 + sh else -1; rw [if_pos n1]; exact h0) rfl (by show sh + grow e = _; simp [sumG])
    refine ⟨A2, i1, i2, by rw [i3]; show (if (-1 : Int) < 0 then e.f0 + sh else -1) = _; rw [if_pos n1], ?_⟩
    rw [← i4, grw_ed]
    show gatL k (max 0 (e.f0 + sh + (e.f2.data.toList.length : Int))) _ _ _ _ _ = gatL k (max 0 (e.f0 + sh + (e.f2.size : Int))) _ _ _ _ _
    rw [show e.f2.data.toList.length = e.f2.size by simp]
    rfl
  have hB : ∀ (k : Nat) (f : S42) (t a : List S42), 0 ≤ f.f0 → ∃ A2, (gS k (nextB ⟨-1, 0, sh, [], [], a, f :: t⟩ f t)).first = place sh A2 ∧ (gS k (nextB ⟨-1, 0, sh, [], [], a, f :: t⟩ f t)).sh = sh + sumG A2 ∧ (gS k (nextB ⟨-1, 0, sh, [], [], a, f :: t⟩ f t)).lo = f.f0 ∧
      gatL k (max 0 (edOf f).b) [] [edOf f] (a.map edOf) (t.map edOf) sh = ((gS k (nextB ⟨-1, 0, sh, [], [], a, f :: t⟩ f t)).hi, A2.map edOf, (gS k (nextB ⟨-1, 0, sh, [], [], a, f :: t⟩ f t)).second.map edOf, (gS k (nextB ⟨-1, 0, sh, [], [], a, f :: t⟩ f t)).a.map edOf, (gS k (nextB ⟨-1, 0, sh, [], [], a, f :: t⟩ f t)).b.map edOf) := by
    intro k f t a h0
    obtain ⟨A2, i1, i2, i3, i4⟩ := gS_gatL sh k (nextB ⟨-1, 0, sh, [], [], a, f :: t⟩ f t) [] (by show 0 ≤ if (-1 : Int) < 0 then f.f0 else -1; rw [if_pos n1]; exact h0) rfl (by show sh = _; simp [sumG])
    exact ⟨A2, i1, i2, by rw [i3]; show (if (-1 : Int) < 0 then f.f0 else -1) = _; rw [if_pos n1], i4⟩
  have sB : ∀ (k : Nat) (f : S42) (t a : List S42), stepB ⟨-1, 0, sh, [], [], a, f :: t⟩ = some (nextB ⟨-1, 0, sh, [], [], a, f :: t⟩ f t) := fun k f t a => by
    show (if (-1 : Int) < 0 ∨ f.f0 ≤ 0 then some _ else none) = _
    rw [if_pos (Or.inl n1)]
  cases a with
  | nil =>
    cases b with
    | nil => exact absurd ⟨rfl, rfl⟩ hne
    | cons f t =>
      have e1 : gS (([] : List S42).length + (f :: t).length + 1) ⟨-1, 0, sh, [], [], [], f :: t⟩ = gS (t.length + 1) (nextB ⟨-1, 0, sh, [], [], [], f :: t⟩ f t) := by
        show gS (0 + (t.length + 1) + 1) _ = _
        rw [Nat.zero_add]
        show (match stepB ⟨-1, 0, sh, [], [], [], f :: t⟩ with | none => (⟨-1, 0, sh, [], [], [], f :: t⟩ : GS) | some s' => gS (t.length + 1) s') = _
        rw [sB 0]
      rw [e1]
      obtain ⟨A2, i1, i2, i3, i4⟩ := hB (t.length + 1) f t [] (hb f t rfl)
      refine ⟨A2, i1, i2, ?_⟩
      rw [i3, ← i4]
      simp only [List.map_nil, List.map_cons, gat0, List.length_map]
      rfl
  | cons e r =>
    cases b with
    | nil =>
      have e1 : gS ((e :: r).length + ([] : List S42).length + 1) ⟨-1, 0, sh, [], [], e :: r, []⟩ = gS (r.length + 1) (nextA ⟨-1, 0, sh, [], [], e :: r, []⟩ e r) := by
        show (match stepG ⟨-1, 0, sh, [], [], e :: r, []⟩ with | none => (⟨-1, 0, sh, [], [], e :: r, []⟩ : GS) | some s' => gS (r.length + 1) s') = _
        have : stepG ⟨-1, 0, sh, [], [], e :: r, []⟩ = some (nextA ⟨-1, 0, sh, [], [], e :: r, []⟩ e r) := by
          rw [stepG_a, if_pos (by unfold takesA; simp)]
        rw [this]
      rw [e1]
      obtain ⟨A2, i1, i2, i3, i4⟩ := hA (r.length + 1) e r [] (ha e r rfl)
      refine ⟨A2, i1, i2, ?_⟩
      rw [i3, ← i4]
      simp only [List.map_nil, List.map_cons, gat0, List.length_map]
      rfl
    | cons f t =>
      by_cases c : e.f0 + sh ≤ f.f0
      · have e1 : gS ((e :: r).length + (f :: t).length + 1) ⟨-1, 0, sh, [], [], e :: r, f :: t⟩ = gS (r.length + (t.length + 1) + 1) (nextA ⟨-1, 0, sh, [], [], e :: r, f :: t⟩ e r) := by
          rw [show (e :: r).length + (f :: t).length + 1 = (r.length + (t.length + 1) + 1) + 1 by simp only [List.length_cons]; omega]
          show (match stepG ⟨-1, 0, sh, [], [], e :: r, f :: t⟩ with | none => (⟨-1, 0, sh, [], [], e :: r, f :: t⟩ : GS) | some s' => gS (r.length + (t.length + 1) + 1) s') = _
          have : stepG ⟨-1, 0, sh, [], [], e :: r, f :: t⟩ = some (nextA ⟨-1, 0, sh, [], [], e :: r, f :: t⟩ e r) := by
            rw [stepG_a, if_pos (by unfold takesA; simp [c])]
          rw [this]
        rw [e1]
        obtain ⟨A2, i1, i2, i3, i4⟩ := hA (r.length + (t.length + 1) + 1) e r (f :: t) (ha e r rfl)
        refine ⟨A2, i1, i2, ?_⟩
        rw [i3, ← i4]
        simp only [List.map_cons, gat0, List.length_map]
        rw [if_pos (show (edOf e).a + sh ≤ (edOf f).a from c)]
        rfl
      · have e1 : gS ((e :: r).length + (f :: t).length + 1) ⟨-1, 0, sh, [], [], e :: r, f :: t⟩ = gS ((r.length + 1) + t.length + 1) (nextB ⟨-1, 0, sh, [], [], e :: r, f :: t⟩ f t) := by
          rw [show (e :: r).length + (f :: t).length + 1 = ((r.length + 1) + t.length + 1) + 1 by simp only [List.length_cons]; omega]
          show (match stepG ⟨-1, 0, sh, [], [], e :: r, f :: t⟩ with | none => (⟨-1, 0, sh, [], [], e :: r, f :: t⟩ : GS) | some s' => gS ((r.length + 1) + t.length + 1) s') = _
          have : stepG ⟨-1, 0, sh, [], [], e :: r, f :: t⟩ = some (nextB ⟨-1, 0, sh, [], [], e :: r, f :: t⟩ f t) := by
            rw [stepG_a, if_neg (by unfold takesA; simp [c]), sB 0]
          rw [this]
        rw [e1]
        obtain ⟨A2, i1, i2, i3, i4⟩ := hB ((r.length + 1) + t.length + 1) f t (e :: r) (hb f t rfl)
        refine ⟨A2, i1, i2, ?_⟩
        rw [i3, ← i4]
        simp only [List.map_cons, gat0, List.length_map]
        rw [if_neg (show ¬ (edOf e).a + sh ≤ (edOf f).a from c)]
        rfl
def ints (l : List UInt8) : List Int := l.map fun b => (b.toNat : Int)
theorem bytesOf_mk (l : List UInt8) : bytesOf ⟨l.toArray⟩ = ints l := by unfold bytesOf ints; simp
theorem put_ints (x y : Int) : ∀ (A : List S42) (sh : Int), putG (place sh A) x y = ints (putS (fsOf sh (A.map edOf)) x y)
  | [], sh => rfl
  | e :: r, sh => by
    simp only [place, putG, List.map_cons, fsOf, putS, put_ints x y r, grw_ed]
    have hl : e.f2.data.toList.length = e.f2.size := by simp
    have hx : mxx x (e.f0 + sh) = max x (e.f0 + sh) := by unfold mxx; split <;> omega
    have hy : mnn y (e.f0 + sh + (e.f2.size : Int)) = min y (e.f0 + sh + (e.f2.size : Int)) := by unfold mnn; split <;> omega
    have key : bytesOf (putOne (P67 (e.f0 + sh) e) x y) = ints (if max x ((edOf e).a + sh) < min y ((edOf e).a + sh + ((edOf e).t.length : Int)) then ((edOf e).t.drop (max x ((edOf e).a + sh) - ((edOf e).a + sh)).toNat).take (min y ((edOf e).a + sh + ((edOf e).t.length : Int)) - max x ((edOf e).a + sh)).toNat else []) := by
      show bytesOf (if mxx x (e.f0 + sh) < mnn y (e.f0 + sh + (e.f2.size : Int)) then e.f2.extract (mxx x (e.f0 + sh) - (e.f0 + sh)).toNat (mnn y (e.f0 + sh + (e.f2.size : Int)) - (e.f0 + sh)).toNat else ⟨#[]⟩) = ints (if max x (e.f0 + sh) < min y (e.f0 + sh + (e.f2.data.toList.length : Int)) then (e.f2.data.toList.drop (max x (e.f0 + sh) - (e.f0 + sh)).toNat).take (min y (e.f0 + sh + (e.f2.data.toList.length : Int)) - max x (e.f0 + sh)).toNat else [])
      rw [hx, hy, hl]
      by_cases c : max x (e.f0 + sh) < min y (e.f0 + sh + (e.f2.size : Int))
      · rw [if_pos c, if_pos c]
        unfold bytesOf ints
        congr 1
        rw [ByteArray.data_extract, Array.toList_extract, List.extract_eq_take_drop]
        congr 1
        omega
      · rw [if_neg c, if_neg c]
        rfl
    rw [key]
    unfold ints
    rw [← List.map_append]
theorem writ_ints (sh : Int) (A : List S42) (hi : Int) : ∀ (ss : List S42) (x : Int), writG (place sh A) hi ss x = ints (writS x (ss.map edOf) (fsOf sh (A.map edOf)) hi)
  | [], x => put_ints x hi A sh
  | e :: t, x => by
    simp only [writG, List.map_cons, writS, put_ints, writ_ints sh A hi t e.f1]
    unfold ints
    rw [List.map_append, List.map_append, List.append_assoc]
    rfl
theorem writ_str (sh : Int) (A : List S42) (hi : Int) (ss : List S42) (x : Int) : strOfNums (writG (place sh A) hi ss x) = ⟨(writS x (ss.map edOf) (fsOf sh (A.map edOf)) hi).toArray⟩ := by
  rw [writ_ints, ← bytesOf_mk, sn_bytes]
end Go.Proofs.Ytaihajmdngoeiaa.Q

-- (*composer).group (41): what lies in memory between its steps, and the bounds
namespace Go.Proofs.Ytaihajmdngoeiaa.F
open Go.RowKit Go.Proofs.YtaihajmdngoeiaaW.PrintWords Go.Proofs.YtaihajmdngoeiaaW.PrintLast Go.Proofs.YtaihajmdngoeiaaW.PrintMore
open Go.Proofs.Ytaihajmdngoeiaa.Q
set_option linter.unusedVariables false
set_option linter.unusedSimpArgs false

/-- The composer's box. -/
def CBx (w0 W : World) (g : Nat) (a b : List S42) (sh : Int) (vo : Value) : Prop := ∃ Aa ca Ab cb, W.heap[g]? = some (.cells #[.slice Aa a.length ca, .slice Ab b.length cb, .int .i64 sh, vo] 58 (0, 0)) ∧ Kd.C k42 w0 Aa a.length a ∧ a.length ≤ ca ∧ Kd.C k42 w0 Ab b.length b ∧ b.length ≤ cb
/-- The places of what is left of the first list lie in the text between. -/
def Pl (n m sh : Int) (a : List S42) : Prop := ∀ A e B, a = A ++ e :: B → 0 ≤ e.f0 + (sh + sumG A) ∧ e.f0 + (sh + sumG A) + e.f2.size ≤ m ∧ 0 ≤ e.f0 ∧ e.f0 ≤ e.f1 ∧ e.f1 ≤ n
theorem Pl.tail {n m sh : Int} {e : S42} {r : List S42} (h : Pl n m sh (e :: r)) : Pl n m (sh + grow e) r := by
  intro A x B hr
  have := h (e :: A) x B (by rw [hr]; rfl)
  simp only [sumG] at this
  rw [show sh + grow e + sumG A = sh + (grow e + sumG A) by omega]
  exact this
theorem Pl.head {n m sh : Int} {e : S42} {r : List S42} (h : Pl n m sh (e :: r)) : 0 ≤ e.f0 + sh ∧ e.f0 + sh + e.f2.size ≤ m ∧ 0 ≤ e.f0 ∧ e.f0 ≤ e.f1 ∧ e.f1 ≤ n := by
  have := h [] e r rfl
  simpa [sumG] using this
/-- The bounds between the rounds of group. -/
structure SR (n m : Int) (s : GS) : Prop where
  pa : Pl n m s.sh s.a
  pb : ∀ f ∈ s.b, 0 ≤ f.f0 ∧ f.f0 ≤ f.f1 ∧ f.f1 ≤ m
  fp : ∀ p ∈ s.first, 0 ≤ p.f0 ∧ p.f0 ≤ 5000000000000000000 ∧ p.f3.size ≤ 1048576
  sp : ∀ e ∈ s.second, (0 ≤ e.f0 ∧ e.f0 ≤ 5000000000000000000) ∧ 0 ≤ e.f1 ∧ e.f1 ≤ 5000000000000000000
  sa : ∀ e ∈ s.a, e.f2.size ≤ 1048576
  sl : -1 ≤ s.lo ∧ s.lo ≤ 4700000000000000000
  sh_ : 0 ≤ s.hi ∧ s.hi ≤ 4700000000000000000
  ss : -4700000000000000000 ≤ s.sh ∧ s.sh ≤ 4700000000000000000
  ln : s.first.length + s.a.length ≤ 100000 ∧ s.second.length + s.b.length ≤ 100000
theorem SR.nextA {n m lo hi sh : Int} {first : List S67} {second : List S42} {e : S42} {r b : List S42} (hm : m ≤ 4700000000000000000) (hn : n ≤ 4700000000000000000) (h : SR n m ⟨lo, hi, sh, first, second, e :: r, b⟩) : SR n m (nextA ⟨lo, hi, sh, first, second, e :: r, b⟩ e r) := by
  obtain ⟨pa, pb, fp, sp, sa, sl, sh_, ss, ln⟩ := h
  simp only at pa pb fp sp sa sl sh_ ss ln
  obtain ⟨p1, p2, p3, p4, p5⟩ := Pl.head pa
  have hg : grow e = (e.f2.size : Int) - (e.f1 - e.f0) := rfl
  refine ⟨pa.tail, pb, ?_, sp, fun x hx => sa x (List.mem_cons_of_mem _ hx), ?_, ?_, ?_, ?_⟩
  · intro p hp
    rcases List.mem_append.1 hp with hp | hp
    · exact fp p hp
    · rw [List.mem_singleton.1 hp]
      exact ⟨p1, by show e.f0 + sh ≤ _; omega, sa e List.mem_cons_self⟩
  · show -1 ≤ (if lo < 0 then e.f0 + sh else lo) ∧ (if lo < 0 then e.f0 + sh else lo) ≤ _
    split <;> omega
  · show 0 ≤ max hi (e.f0 + sh + e.f2.size) ∧ max hi (e.f0 + sh + e.f2.size) ≤ _
    omega
  · show _ ≤ sh + grow e ∧ sh + grow e ≤ _
    rw [hg]
    omega
  · refine ⟨?_, ln.2⟩
    show (first ++ [P67 (e.f0 + sh) e]).length + r.length ≤ _
    rw [List.length_append]
    simp only [List.length_cons, List.length_nil] at ln ⊢
    omega
theorem SR.nextB {n m lo hi sh : Int} {first : List S67} {second : List S42} {f : S42} {t a : List S42} (hm : m ≤ 4700000000000000000) (h : SR n m ⟨lo, hi, sh, first, second, a, f :: t⟩) : SR n m (nextB ⟨lo, hi, sh, first, second, a, f :: t⟩ f t) := by
  obtain ⟨pa, pb, fp, sp, sa, sl, sh_, ss, ln⟩ := h
  simp only at pa pb fp sp sa sl sh_ ss ln
  obtain ⟨p1, p2, p3⟩ := pb f List.mem_cons_self
  refine ⟨pa, fun x hx => pb x (List.mem_cons_of_mem _ hx), fp, ?_, sa, ?_, ?_, ss, ?_⟩
  · intro p hp
    rcases List.mem_append.1 hp with hp | hp
    · exact sp p hp
    · rw [List.mem_singleton.1 hp]
      omega
  · show -1 ≤ (if lo < 0 then f.f0 else lo) ∧ (if lo < 0 then f.f0 else lo) ≤ _
    split <;> omega
  · show 0 ≤ max hi f.f1 ∧ max hi f.f1 ≤ _
    omega
  · refine ⟨ln.1, ?_⟩
    show (second ++ [f]).length + t.length ≤ _
    rw [List.length_append]
    simp only [List.length_cons, List.length_nil] at ln ⊢
    omega
/-- What lies in memory between the steps of group. w0: the world that Compose began in; w: the one that group began in. -/
structure MR (w0 w W : World) (g : Nat) (a b : List S42) (sh : Int) (first : List S67) (second : List S42) (v5 v6 vo : Value) (out : List S42) : Prop where
  bx : CBx w0 W g a b sh vo
  r5 : Kd.R k67 67 W w.heap.size (fun k => k ≠ g) v5 first
  r6 : Kd.R k42 42 W w.heap.size (fun k => k ≠ g ∧ some k ≠ v5.ownBlock) v6 second
  ro : Kd.R k42 42 W w0.heap.size (fun k => k ≠ g ∧ k < w.heap.size) vo out
  hb : Below w0.heap.size w0 W
  g0 : w0.heap.size ≤ g
  gw : g < w.heap.size
  sz : w.heap.size ≤ W.heap.size
section
variable {w0 w W W1 : World} {g : Nat} {a b : List S42} {sh : Int} {first : List S67} {second : List S42} {v5 v6 vo : Value} {out : List S42}
theorem CBx.below {a b : List S42} {sh : Int} (h : CBx w0 W g a b sh vo) (hb : Below W.heap.size W W1) : CBx w0 W1 g a b sh vo := by
  obtain ⟨Aa, ca, Ab, cb, x, y⟩ := h
  exact ⟨Aa, ca, Ab, cb, blk_below x hb, y⟩
theorem MR.below (h : MR w0 w W g a b sh first second v5 v6 vo out) (hb : Below W.heap.size W W1) : MR w0 w W1 g a b sh first second v5 v6 vo out :=
  ⟨h.bx.below hb, Kd.R_below h.r5 hb, Kd.R_below h.r6 hb, Kd.R_below h.ro hb, below_step h.hb hb, h.g0, h.gw, Nat.le_trans h.sz hb.size⟩
/-- A cell of the box is written. -/
theorem MR.set (h : MR w0 w W g a b sh first second v5 v6 vo out) {a2 b2 : List S42} {sh2 : Int} (i : Nat) (u : Value) (hx : CBx w0 (W.setCell ⟨g, i, none⟩ u) g a2 b2 sh2 vo) : MR w0 w (W.setCell ⟨g, i, none⟩ u) g a2 b2 sh2 first second v5 v6 vo out :=
  ⟨hx, Kd.R_far (p := ⟨g, i, none⟩) h.r5 (fun k hk => hk) u, Kd.R_far (p := ⟨g, i, none⟩) h.r6 (fun k hk => hk.1) u, Kd.R_far (p := ⟨g, i, none⟩) h.ro (fun k hk => hk.1) u, below_set h.hb h.g0, h.g0, h.gw, by have := h.sz; simp only [World.setCell]; simpa using this⟩
theorem MR.gne (h : MR w0 w W g a b sh first second v5 v6 vo out) : some g ≠ v5.ownBlock ∧ some g ≠ v6.ownBlock := ⟨Kd.R_away h.r5 (fun _ hk => hk), Kd.R_away h.r6 (fun _ hk => hk.1)⟩
/-- The first row has grown. -/
theorem MR.app5 (h : MR w0 w W g a b sh first second v5 v6 vo out) {p : S67} {v : Value} (hr : Kd.R k67 67 W1 w.heap.size (fun k => k ≠ g) v (first ++ [p])) (hg : W.grownBy W1 v5.ownBlock) (hat : v.ownBlock = v5.ownBlock ∨ ∃ b, v.ownBlock = some b ∧ W.heap.size ≤ b) : MR w0 w W1 g a b sh (first ++ [p]) second v v6 vo out := by
  have h5 : ∀ k, v5.ownBlock = some k → w.heap.size ≤ k := fun k hk => ((Kd.R_bound h.r5).1 k hk).2.1
  refine ⟨?_, hr, ?_, ?_, h.hb.grown hg (Nat.le_trans h.hb.size (Nat.le_refl _)) (fun k hk => by have := h5 k hk; have := h.g0; have := h.gw; omega), h.g0, h.gw, Nat.le_trans h.sz hg.size⟩
  · obtain ⟨Aa, ca, Ab, cb, x, y⟩ := h.bx
    exact ⟨Aa, ca, Ab, cb, blk_grown x hg h.gne.1, y⟩
  · have h6 : Kd.R k42 42 W1 w.heap.size (fun k => (k ≠ g ∧ some k ≠ v5.ownBlock) ∧ k < W.heap.size) v6 second := Kd.R_mono (Kd.R_step (Kd.R_bound h.r6) (fun k ho hk => hg.block k hk ho.1.2)) (fun k hk => ⟨hk.1, hk.2.2.1⟩)
    refine Kd.R_mono h6 (fun k hk => ⟨hk.1.1, ?_⟩)
    rcases hat with e | ⟨q, e, hq⟩
    · rw [e]; exact hk.1.2
    · rw [e]; intro e2; injection e2 with e2; omega
  · exact Kd.R_step h.ro (fun k ho hk => hg.block k hk (fun e => by have := h5 k e.symm; omega))
/-- The second row has grown. -/
theorem MR.app6 (h : MR w0 w W g a b sh first second v5 v6 vo out) {p : S42} {v : Value} (hr : Kd.R k42 42 W1 w.heap.size (fun k => k ≠ g ∧ some k ≠ v5.ownBlock) v (second ++ [p])) (hg : W.grownBy W1 v6.ownBlock) : MR w0 w W1 g a b sh first (second ++ [p]) v5 v vo out := by
  have h6 : ∀ k, v6.ownBlock = some k → w.heap.size ≤ k := fun k hk => ((Kd.R_bound h.r6).1 k hk).2.1
  refine ⟨?_, ?_, hr, ?_, h.hb.grown hg (Nat.le_trans h.hb.size (Nat.le_refl _)) (fun k hk => by have := h6 k hk; have := h.g0; have := h.gw; omega), h.g0, h.gw, Nat.le_trans h.sz hg.size⟩
  · obtain ⟨Aa, ca, Ab, cb, x, y⟩ := h.bx
    exact ⟨Aa, ca, Ab, cb, blk_grown x hg h.gne.2, y⟩
  · have h5 : ∀ k, v5.ownBlock = some k → some k ≠ v6.ownBlock := fun k hk e => (h.r6.1 k e.symm).2 hk.symm
    have : Kd.R k67 67 W w.heap.size (fun k => k ≠ g ∧ some k ≠ v6.ownBlock) v5 first := by
      cases h6o : v6.ownBlock with
      | none => exact Kd.R_mono h.r5 (fun k hk => ⟨hk, by simp⟩)
      | some q => exact Kd.R_mono (Kd.R_far1 h.r5 rfl (g := q) (fun e => h5 q e.symm (by rw [h6o]))) (fun k hk => ⟨hk.1, fun e => hk.2 (by injection e)⟩)
    exact Kd.R_mono (Kd.R_step this (fun k ho hk => hg.block k hk ho.2)) (fun k hk => hk.1)
  · exact Kd.R_step h.ro (fun k ho hk => hg.block k hk (fun e => by have := h6 k e.symm; omega))
end
end Go.Proofs.Ytaihajmdngoeiaa.F

-- (*composer).group (41), walked by hand
namespace Go.Proofs.Ytaihajmdngoeiaa.F
open Go.RowKit Go.Proofs.YtaihajmdngoeiaaW.PrintWords Go.Proofs.YtaihajmdngoeiaaW.PrintLast Go.Proofs.YtaihajmdngoeiaaW.PrintMore
open Go.Proofs.Ytaihajmdngoeiaa.Q
attribute [local go_sem] max2_int min2_int max_two min_two
set_option linter.unusedVariables false
set_option linter.unusedSimpArgs false

def group.T11 : Bool × List (List Nat × List Nat) := (true, [([], []), ([0], [0]), ([1], [1]), ([2], [2]), ([], []), ([4], [4]), ([3, 5], [3, 5]), ([0, 0, 1, 2, 3, 4, 5, 6], [0]), ([7, 0, 1, 2, 3, 4, 5, 6], [7]), ([8, 6, 5, 0, 1, 2, 3, 4, 5, 6], [6, 8])])
def group.B11 : List Nat := [0, 1, 3, 7, 0, 16, 63, 127, 255, 511]
theorem group.tab11 : rtab .any (opsOf Try.f41 11) = group.T11 := by kernel_rfl
theorem group.bits11 : waitsOk group.T11.2 group.B11 = true := by kernel_rfl
def group.T22 : Bool × List (List Nat × List Nat) := (true, [([], []), ([], []), ([1], [1]), ([2], [2]), ([3], [3]), ([], []), ([], []), ([5, 6], [5, 6]), ([], []), ([], []), ([9], [9]), ([10], [10]), ([11], [11]), ([8, 12], [8, 12]), ([], []), ([], []), ([], []), ([], []), ([14, 15, 16, 17], [14, 15, 16, 17]), ([7, 13, 18], [7, 13, 18]), ([19], [19]), ([4, 20, 18], [4, 20]), ([0, 0, 1, 2, 3, 4, 5, 6, 7, 8, 9, 10, 11, 12, 13, 14, 15, 16, 17, 18, 19, 20, 21], [0]), ([22, 0, 1, 2, 3, 4, 5, 6, 7, 8, 9, 10, 11, 12, 13, 14, 15, 16, 17, 18, 19, 20, 21], [22]), ([23, 21, 21, 0, 1, 2, 3, 4, 5, 6, 7, 8, 9, 10, 11, 12, 13, 14, 15, 16, 17, 18, 19, 20, 21], [21, 23])])
def group.B22 : List Nat := [0, 0, 2, 6, 14, 0, 0, 96, 0, 0, 512, 1536, 3584, 7936, 0, 0, 0, 0, 245760, 524256, 1048544, 2097150, 4194303, 8388607, 16777215]
theorem group.tab22 : rtab .any (opsOf Try.f41 22) = group.T22 := by kernel_rfl
theorem group.bits22 : waitsOk group.T22.2 group.B22 = true := by kernel_rfl
set_option maxRecDepth 100000 in
set_option maxHeartbeats 20000000 in
theorem group.calls (g : Nat) (a b : List S42) (sh : Int) (vo : Value) (out : List S42) (n m : Int) (w0 w : World) (hm : m ≤ 4700000000000000000) (hn : n ≤ 4700000000000000000)
    (h0 : MR w0 w w g a b sh [] [] (.slice none 0 0) (.slice none 0 0) vo out) (hs0 : SR n m ⟨-1, 0, sh, [], [], a, b⟩) (hol : out.length ≤ 200000) (S : GS) (hS : gS (a.length + b.length + 1) ⟨-1, 0, sh, [], [], a, b⟩ = S)
    (hf : -9000000000000000000 ≤ S.lo - sh ∧ S.lo - sh ≤ 9000000000000000000 ∧ -9000000000000000000 ≤ S.hi - S.sh ∧ S.hi - S.sh ≤ 9000000000000000000) (hwl : (writG S.first S.hi S.second S.lo).length ≤ 140737488355328) (hlo : 0 ≤ S.lo) :
    Calls Try.prog 41 #[.pointer (some ⟨g, 0, none⟩)] w fun e w' => (∃ x, e = .returned x) ∧ ∃ vo', CBx w0 w' g S.a S.b S.sh vo' ∧ Kd.R k42 42 w' w0.heap.size (fun k => k ≠ g) vo' (out ++ [⟨S.lo - sh, S.hi - S.sh, strOfNums (writG S.first S.hi S.second S.lo)⟩]) ∧ Below w0.heap.size w0 w' := by
  have hu22 := Try.underlying22
  have hu42 := Try.underlying42
  have hu65 := Try.underlying65
  have hu67 := Try.underlying67
  have HM0 := Aside0.mk hm
  have HN0 := Aside0.mk hn
  have H0 := Aside0.mk h0
  have HS0 := Aside0.mk hs0
  have HOL := Aside0.mk hol
  have HGS := Aside0.mk hS
  have HF := Aside0.mk hf
  have HWL := Aside0.mk hwl
  have HLO := Aside0.mk hlo
  obtain ⟨Aa, ca, Ab, cb, xg, CA, la, CB, lb⟩ := h0.bx
  have mg : w.cell? ⟨g, 2, none⟩ = some (.int .i64 sh) := (blk_cell xg 2).trans rfl
  clear hm hn h0 hs0 hol hS hf hwl hlo xg CA CB la lb
  go_enter Try.func41, Try.ntmps41
  go_upto_block 0 with (fail)
  go_cut [2, 3, 5, 6] (fun v2 v3 v5 v6 wc => v2 = .int .i64 S.lo ∧ v3 = .int .i64 S.hi ∧ Aside0 (MR w0 w wc g S.a S.b S.sh S.first S.second v5 v6 vo out) ∧ Aside0 (SR n m S))
  case first =>
    as_aux_lemma =>
      clear mg
      go_wp2_with (fail)
      go_loopg [2, 3, 5, 6] (a.length + b.length + 1) (fun kq v2 v3 v5 v6 w' => ∃ (s : GS), v2 = .int .i64 s.lo ∧ v3 = .int .i64 s.hi ∧ Aside0 (s.a.length + s.b.length + 1 = kq) ∧ Aside0 (gS kq s = S) ∧ Aside0 (MR w0 w w' g s.a s.b s.sh s.first s.second v5 v6 vo out) ∧ Aside0 (SR n m s))
      case atStart => exact ⟨_, rfl, rfl, ⟨rfl⟩, HGS, H0, HS0⟩
      case round =>
        clear H0 HGS HS0
        obtain ⟨s, rfl, rfl, HK, HS, HMR, HSR⟩ := hrel
        obtain ⟨lo, hi, sh1, first, second, a1, b1⟩ := s
        go_step
        go_step
        go_cut [2, 3, 5] (fun v2 v3 v5 wc => v2 = .int .i64 lo ∧ v3 = .int .i64 hi ∧ v5 = u5 ∧ Aside0 (MR w0 w wc g a1 b1 sh1 first second u5 u6 vo out) ∧ Aside0 (∀ e r, a1 = e :: r → takesA lo hi sh1 e b1 = false))
        case first =>
          as_aux_lemma =>
            obtain ⟨Aa, ca, Ab, cb, xg, CA, la, CB, lb⟩ := HMR.out.bx
            simp only at xg CA la CB lb
            obtain ⟨na, hna⟩ : ∃ n, n = a1.length := ⟨_, rfl⟩
            obtain ⟨nb, hnb⟩ : ∃ n, n = b1.length := ⟨_, rfl⟩
            rw [← hna, ← hnb] at xg
            have m0 : wr.cell? ⟨g, 0, none⟩ = some (.slice Aa na ca) := (blk_cell xg 0).trans rfl
            have m1 : wr.cell? ⟨g, 1, none⟩ = some (.slice Ab nb cb) := (blk_cell xg 1).trans rfl
            have m2 : wr.cell? ⟨g, 2, none⟩ = some (.int .i64 sh1) := (blk_cell xg 2).trans rfl
            have XCA := Aside0.mk CA
            have XCB := Aside0.mk CB
            have NA := Aside0.mk hna
            have NB := Aside0.mk hnb
            clear xg CA CB la lb hna hnb
            cases a1 with
            | nil =>
              have hna := NA.out
              simp only [List.length_nil] at hna
              subst hna
              go_wp2
              go_meet
              case rel => exact ⟨rfl, rfl, rfl, HMR, ⟨fun e r h => by cases h⟩⟩
            | cons e r =>
              have hna := NA.out
              have d1 : decide (0 < na) = true := decide_eq_true (by rw [hna]; simp)
              have d2 : decide (0 < (na : Int)) = true := decide_eq_true (by rw [hna]; simp only [List.length_cons]; omega)
              obtain ⟨ada, ea, xa0, xa1, xa2⟩ := at_T42 (Kd.C_below XCA.out HMR.out.hb) 0 (by omega) (by simp)
              subst ea
              have qa : (0 < na) = True := eq_true (by rw [hna]; simp)
              have ra : rd_T42 (e :: r) 0 = e := rfl
              simp only [ra, Int.toNat_zero, Nat.zero_mul, Addr.add_zero'] at xa0 xa1 xa2
              obtain ⟨p1, p2, p3, p4, p5⟩ := Pl.head (show Pl n m sh1 (e :: r) from HSR.out.pa)
              have hw : wrap64 (e.f0 + sh1) = e.f0 + sh1 := by have := HM0.out; rw [w64] <;> omega
              have PH := Aside0.mk (show 0 ≤ e.f0 + sh1 ∧ e.f0 + sh1 + e.f2.size ≤ m ∧ 0 ≤ e.f0 ∧ e.f0 ≤ e.f1 ∧ e.f1 ≤ n from ⟨p1, p2, p3, p4, p5⟩)
              clear hna ra p1 p2 p3 p4 p5
              go_upto_region 6 with (fail)
              go_quiet (fail)
              go_upto_region 7 with (fail)
              rw [hw]
              go_cut [61] (fun v61 wc => v61 = .bool (takesA lo hi sh1 e b1) ∧ ∃ k, wc = wr.drewN k)
              case first =>
                as_aux_lemma =>
                  by_cases l : lo < 0
                  · have c1 : decide (lo < 0) = true := decide_eq_true l
                    have c2 : decide (0 ≤ lo) = false := decide_eq_false (by omega)
                    cases b1 with
                    | nil =>
                      have hnb := NB.out
                      simp only [List.length_nil] at hnb
                      subst hnb
                      have HT := Aside0.mk (show takesA lo hi sh1 e [] = true by simp [takesA, l])
                      clear l xa0 xa1 xa2 hw qa
                      go_wp2
                      go_meet
                      case rel => exact ⟨by rw [HT.out], _, rfl⟩
                    | cons f t =>
                      have hnb := NB.out
                      obtain ⟨adb, eb, xb0, xb1, xb2⟩ := at_T42 (Kd.C_below XCB.out HMR.out.hb) 0 (by omega) (by simp)
                      subst eb
                      have qb : (0 < nb) = True := eq_true (by rw [hnb]; simp)
                      have dn : ((nb : Int) == 0) = false := beq_eq_false_iff_ne.mpr (by rw [hnb]; simp only [List.length_cons]; omega)
                      have rb : rd_T42 (f :: t) 0 = f := rfl
                      simp only [rb, Int.toNat_zero, Nat.zero_mul, Addr.add_zero'] at xb0 xb1 xb2
                      by_cases c : e.f0 + sh1 ≤ f.f0
                      · have d3 : decide (e.f0 + sh1 ≤ f.f0) = true := decide_eq_true c
                        have HT := Aside0.mk (show takesA lo hi sh1 e (f :: t) = true by simp [takesA, l, c])
                        clear l xa0 xa1 xa2 hw qa rb hnb c
                        go_wp2
                        go_meet
                        case rel => exact ⟨by rw [HT.out], _, rfl⟩
                      · have d3 : decide (e.f0 + sh1 ≤ f.f0) = false := decide_eq_false c
                        have HT := Aside0.mk (show takesA lo hi sh1 e (f :: t) = false by simp [takesA, l, c]; omega)
                        clear l xa0 xa1 xa2 hw qa rb hnb c
                        go_wp2
                        go_meet
                        case rel => exact ⟨by rw [HT.out], _, rfl⟩
                  · have c1 : decide (lo < 0) = false := decide_eq_false l
                    have c2 : decide (0 ≤ lo) = true := decide_eq_true (by omega)
                    have HT := Aside0.mk (show takesA lo hi sh1 e b1 = decide (e.f0 + sh1 ≤ hi) by simp [takesA, l]; omega)
                    clear l xa0 xa1 xa2 hw qa
                    go_wp2
                    go_meet
                    case rel => exact ⟨by rw [HT.out], _, rfl⟩
              case rest =>
                as_aux_lemma =>
                  obtain ⟨rfl, kd, rfl⟩ := hcut
                  have HM1 := Aside0.mk (HMR.out.below (pw_below_drewN (Below.refl _ _) kd))
                  by_cases ht : takesA lo hi sh1 e b1 = true
                  · rw [ht]
                    have HTK := Aside0.mk ht
                    clear ht HMR m0 m1 m2 xa0 xa1 xa2 hw d1 d2 qa XCA XCB NA NB
                    generalize wr.drewN kd = wd at HM1 ⊢
                    clear Aa ca Ab cb na nb ada
                    obtain ⟨Aa, ca, Ab, cb, xg, CA, la, CB, lb⟩ := HM1.out.bx
                    obtain ⟨na, hna⟩ : ∃ n, n = (e :: r).length := ⟨_, rfl⟩
                    rw [← hna] at xg la
                    have m0 : wd.cell? ⟨g, 0, none⟩ = some (.slice Aa na ca) := (blk_cell xg 0).trans rfl
                    obtain ⟨ada, ea, xa0, xa1, xa2⟩ := at_T42 (Kd.C_below CA HM1.out.hb) 0 (by omega) (by simp)
                    subst ea
                    have qa : (0 < na) = True := eq_true (by rw [hna]; simp)
                    have ra : rd_T42 (e :: r) 0 = e := rfl
                    simp only [ra, Int.toNat_zero, Nat.zero_mul, Addr.add_zero'] at xa0 xa1 xa2
                    have XCA := Aside0.mk CA
                    have XCB := Aside0.mk CB
                    have XG := Aside0.mk xg
                    have NA := Aside0.mk hna
                    have LA := Aside0.mk la
                    have LB := Aside0.mk lb
                    clear xg CA CB la lb hna ra
                    go_upto_region 9 with (fail)
                    obtain ⟨gE, hgE⟩ : ∃ g, wd.heap.size = g := ⟨_, rfl⟩
                    obtain ⟨W2, hW2⟩ : ∃ W, W = wd.alloc (Obj.cells #[Value.int IntKind.i64 e.f0, Value.int IntKind.i64 e.f1, Value.string e.f2] 42) := ⟨_, rfl⟩
                    rw [← hW2, hgE]
                    have BE := Aside0.mk (show W2.heap[gE]? = some (.cells #[.int .i64 e.f0, .int .i64 e.f1, .string e.f2] 42 (0, 0)) by rw [hW2, ← hgE]; exact blk_new _ _)
                    have XG2 := Aside0.mk (show W2.heap[g]? = some (.cells #[.slice (some ada) na ca, .slice Ab b1.length cb, .int .i64 sh1, vo] 58 (0, 0)) by rw [hW2]; exact blk_alloc XG.out _)
                    have HM2 := Aside0.mk (show MR w0 w W2 g (e :: r) b1 sh1 first second u5 u6 vo out by rw [hW2]; exact HM1.out.below (below_alloc (Below.refl _ _) _))
                    have h5E : ∀ k, u5.ownBlock = some k → k < gE := fun k hk => by rw [← hgE]; exact Kd.R_lt HM1.out.r5 k hk
                    have h6E : ∀ k, u6.ownBlock = some k → k < gE := fun k hk => by rw [← hgE]; exact Kd.R_lt HM1.out.r6 k hk
                    have hgE' : g < gE := by rw [← hgE]; exact blk_lt XG.out
                    have H5E := Aside0.mk h5E
                    have H6E := Aside0.mk h6E
                    have GE := Aside0.mk hgE'
                    clear h5E h6E hgE' hgE hW2 HM1 XG m0 xa0 xa1 xa2
                    have m0 : W2.cell? ⟨g, 0, none⟩ = some (.slice (some ada) na ca) := (blk_cell XG2.out 0).trans rfl
                    have mf := blk_frozen XG2.out 0
                    have s1 : (1 ≤ (na : Int)) = True := eq_true (by rw [NA.out]; simp only [List.length_cons]; omega)
                    go_upto_region 10 with (fail)
                    have hCr := Kd.C_drop (m := 1) (c := ca) (by rw [← NA.out]; have := XCA.out; rw [← NA.out] at this; exact this) (by simp) (by rw [← NA.out]; exact LA.out)
                    have hna1 : na - 1 = r.length := by rw [NA.out]; simp
                    have XG3 := Aside0.mk (show (W2.setCell ⟨g, 0, none⟩ (.slice (if ca = 1 then some ada else some ⟨ada.block, ada.off + 3, none⟩) (na - 1) (ca - 1))).heap[g]? = some (.cells #[.slice (if ca = 1 then some ada else some ⟨ada.block, ada.off + 3, none⟩) r.length (ca - 1), .slice Ab b1.length cb, .int .i64 sh1, vo] 58 (0, 0)) by rw [hna1]; exact blk_put XG2.out 0 _ rfl)
                    have HM3 := Aside0.mk (HM2.out.set (a2 := r) (b2 := b1) (sh2 := sh1) 0 (.slice (if ca = 1 then some ada else some ⟨ada.block, ada.off + 3, none⟩) (na - 1) (ca - 1)) ⟨_, _, _, _, XG3.out, hCr, by rw [← hna1]; have := LA.out; omega, XCB.out, LB.out⟩)
                    have BE3 := Aside0.mk ((Below.heap_setCell W2 ⟨g, 0, none⟩ (.slice (if ca = 1 then some ada else some ⟨ada.block, ada.off + 3, none⟩) (na - 1) (ca - 1)) gE (show gE ≠ g by have := GE.out; omega)).trans BE.out)
                    generalize W2.setCell ⟨g, 0, none⟩ (.slice (if ca = 1 then some ada else some ⟨ada.block, ada.off + 3, none⟩) (na - 1) (ca - 1)) = W3 at XG3 HM3 BE3 ⊢
                    clear HM2 BE XG2 hCr hna1 m0 mf s1
                    have e0 : W3.cell? ⟨gE, 0, none⟩ = some (.int .i64 e.f0) := (blk_cell BE3.out 0).trans rfl
                    have e1 : W3.cell? ⟨gE, 1, none⟩ = some (.int .i64 e.f1) := (blk_cell BE3.out 1).trans rfl
                    have e2 : W3.cell? ⟨gE, 2, none⟩ = some (.string e.f2) := (blk_cell BE3.out 2).trans rfl
                    have LF := Aside0.mk (show first.length ≤ 100000 by have := HSR.out.ln.1; simp only at this; omega)
                    go_upto_region 11 with (first | ((with_reducible refine gate_builtin (b := .append) (xs := #[.tmp 76, .tmp 80]) rfl ?_); at_builtin; refine Kd.R_append k67 (w0 := W3) w.heap.size rfl (.tmp 76) (.tmp 80) 65 67 (.agg #[(.int .i64 0), (.int .i64 0), (.int .i64 0), (.string ⟨#[]⟩)]) 40 rfl hu65 info67 rfl (by decide) (by omega) u5 first (P67 (e.f0 + sh1) e) [.int .i64 (e.f0 + sh1), .int .i64 e.f0, .int .i64 e.f1, .string e.f2] (fun k => k ≠ g) (fun _ => False) rfl rfl ?aP (fun _ hk => hk.elim) ?aF ?aO ?aB ?aS ?aL ?_; (case aP => exact k67_mkM _ _ _ (P67 (e.f0 + sh1) e)); (case aB => exact Below.refl _ _); (case aF => exact fun k hk => by have := HM3.out.gw; have := HM3.out.sz; omega); (case aO => exact HM3.out.r5); (case aS => exact HM3.out.sz); (case aL => have := LF.out; omega); intro v9 W4 ho hb hg hat; have HM4 := Aside0.mk (HM3.out.app5 ho hg hat); have BE4 := Aside0.mk (blk_grown BE3.out hg (fun q => by have := H5E.out gE q.symm; omega)); have BG := Aside0.mk (blk_grown XG3.out hg HM3.out.gne.1); clear ho hb hg hat e0 e1 e2; have m2 : W4.cell? ⟨g, 2, none⟩ = some (.int .i64 sh1) := (blk_cell BG.out 2).trans rfl; have e0 : W4.cell? ⟨gE, 0, none⟩ = some (.int .i64 e.f0) := (blk_cell BE4.out 0).trans rfl; have e1 : W4.cell? ⟨gE, 1, none⟩ = some (.int .i64 e.f1) := (blk_cell BE4.out 1).trans rfl; have e2 : W4.cell? ⟨gE, 2, none⟩ = some (.string e.f2) := (blk_cell BE4.out 2).trans rfl))
                    clear HM3 BE3 XG3
                    obtain ⟨hP1, hP2, hP3, hP4, hP5⟩ := PH.out
                    have hwg : wrap64 (sh1 + wrap64 ((e.f2.size : Int) - wrap64 (e.f1 - e.f0))) = sh1 + grow e := by
                      have h1 := HM0.out
                      have h2 := HN0.out
                      have h3 := HSR.out.ss
                      have h4 := HSR.out.sa e List.mem_cons_self
                      simp only at h3
                      show wrap64 (sh1 + wrap64 ((e.f2.size : Int) - wrap64 (e.f1 - e.f0))) = sh1 + ((e.f2.size : Int) - (e.f1 - e.f0))
                      rw [w64 (x := e.f1 - e.f0) (by omega) (by omega), w64 (x := (e.f2.size : Int) - (e.f1 - e.f0)) (by omega) (by omega), w64 (by omega) (by omega)]
                    have hwt : wrap64 (e.f0 + sh1 + (e.f2.size : Int)) = e.f0 + sh1 + (e.f2.size : Int) := by have h1 := HM0.out; rw [w64] <;> omega
                    have HWG := Aside0.mk hwg
                    have HWT := Aside0.mk hwt
                    have hgS : gS (r.length + b1.length + 1) (nextA ⟨lo, hi, sh1, first, second, e :: r, b1⟩ e r) = S := by
                      have h1 := HS.out
                      have h2 := HK.out
                      simp only [List.length_cons] at h2
                      rw [← h2, show r.length + 1 + b1.length + 1 = (r.length + b1.length + 1) + 1 by omega] at h1
                      simp only [gS, stepG_a, HTK.out, if_true] at h1
                      exact h1
                    have HGN := Aside0.mk hgS
                    clear hP1 hP2 hP3 hP4 hP5 hwg hwt hgS HS
                    refine start_ (n := 10) (S := fun w' => Below W4.heap.size W4 w') (ds := [9]) #[false, false, false, false, false, false, false, false, false, false] (by kernel_rfl) rfl rfl (below_drew1 (Below.refl _ _)) (fun hHeld => ?_)
                    refine with_tabW group.tab11 group.bits11 (fun HT_ HW_ => ?_)
                    generalize W4.drew = wa at hHeld ⊢
                    refine pure_ (i := 0) (N := some 82) (v := ?_) (a' := ?_) #[true, false, false, false, false, false, false, false, false, false] rfl rfl (any_of HT_.out (by kernel_rfl)) (fun _ _ _ h => h) (Or.inl ⟨by rfl, ?_⟩) ?_ ?_
                    rotate_left
                    · intro w'
                      go_simp
                      with_reducible rfl
                    rotate_left
                    · simp only [Act.put, List.setIfInBounds_toArray, List.set_cons_zero, List.set_cons_succ, i64_w, i32_w]
                      rfl
                    refine pure_ (i := 1) (N := some 83) (v := ?_) (a' := ?_) #[true, true, false, false, false, false, false, false, false, false] rfl rfl (any_of HT_.out (by kernel_rfl)) (fun _ _ _ h => h) (Or.inl ⟨by rfl, ?_⟩) ?_ ?_
                    rotate_left
                    · intro w'
                      go_simp
                      with_reducible rfl
                    rotate_left
                    · simp only [Act.put, List.setIfInBounds_toArray, List.set_cons_zero, List.set_cons_succ, i64_w, i32_w]
                      rfl
                    refine pure_ (i := 2) (N := some 84) (v := ?_) (a' := ?_) #[true, true, true, false, false, false, false, false, false, false] rfl rfl (any_of HT_.out (by kernel_rfl)) (fun _ _ _ h => h) (Or.inl ⟨by rfl, ?_⟩) ?_ ?_
                    rotate_left
                    · intro w'
                      go_simp
                      with_reducible rfl
                    rotate_left
                    · simp only [Act.put, List.setIfInBounds_toArray, List.set_cons_zero, List.set_cons_succ, i64_w, i32_w]
                      rfl
                    refine take_ (i := 3) (N := some 85) (v := ?_) (a' := ?_) #[true, true, true, true, false, false, false, false, false, false] rfl rfl (take_ofW HT_.out HW_.out (by kernel_rfl)) (fun _ _ _ h => h) (Or.inl ⟨by rfl, ?_⟩) hHeld ?_ ?_
                    rotate_left
                    · intro w' hS
                      have h0 := (hS.cell (World.block_lt_of_cell? _ _ m2)).trans m2
                      have h1 := (hS.cell (World.block_lt_of_cell? _ _ e0)).trans e0
                      have h2 := (hS.cell (World.block_lt_of_cell? _ _ e1)).trans e1
                      have h3 := (hS.cell (World.block_lt_of_cell? _ _ e2)).trans e2
                      clear hS
                      go_simp
                      with_reducible rfl
                    rotate_left
                    · simp only [Act.put, List.setIfInBounds_toArray, List.set_cons_zero, List.set_cons_succ, i64_w, i32_w]
                      rfl
                    refine take_ (i := 4) (N := some 86) (v := ?_) (a' := ?_) #[true, true, true, true, true, false, false, false, false, false] rfl rfl (take_ofW HT_.out HW_.out (by kernel_rfl)) (fun _ _ _ h => h) (Or.inl ⟨by rfl, ?_⟩) hHeld ?_ ?_
                    rotate_left
                    · intro w' hS
                      have h0 := (hS.cell (World.block_lt_of_cell? _ _ m2)).trans m2
                      have h1 := (hS.cell (World.block_lt_of_cell? _ _ e0)).trans e0
                      have h2 := (hS.cell (World.block_lt_of_cell? _ _ e1)).trans e1
                      have h3 := (hS.cell (World.block_lt_of_cell? _ _ e2)).trans e2
                      clear hS
                      go_simp
                      with_reducible rfl
                    rotate_left
                    · simp only [Act.put, List.setIfInBounds_toArray, List.set_cons_zero, List.set_cons_succ, i64_w, i32_w]
                      rfl
                    refine one_ (i := 5) (N := some 87) #[true, true, true, true, true, true, false, false, false, false] rfl rfl (one_of HT_.out (by kernel_rfl)) (by decide) (fun K hK => ?_)
                    refine goes_ Try.func34 (by kernel_rfl) rfl #[.agg #[.int .i64 e.f0, .int .i64 e.f1, .string e.f2]] (by rfl) rfl rfl (by (try simp only [List.map_toArray, List.map_cons, List.map_nil]); first | done | rfl) ?_
                    refine (edits_grows.calls e.f0 e.f1 e.f2 _ _ rfl).mono ?_
                    rintro e' w5 ⟨rfl, hb5⟩
                    refine ⟨_, rfl, ?_⟩
                    refine hK.out _ _ (below_step hHeld hb5) (fun hHeld => ?_)
                    clear hb5
                    clear hK K
                    refine norm_ (a' := ?_) ?_ ?_
                    rotate_left
                    · show Act.put _ (some 87) _ = _
                      simp only [Act.put, List.setIfInBounds_toArray, List.set_cons_zero, List.set_cons_succ, i64_w, i32_w]
                      rfl
                    refine pure_ (i := 6) (N := some 88) (v := ?_) (a' := ?_) #[true, true, true, true, true, true, true, false, false, false] rfl rfl (any_of HT_.out (by kernel_rfl)) (fun _ _ _ h => h) (Or.inl ⟨by rfl, ?_⟩) ?_ ?_
                    rotate_left
                    · intro w'
                      go_simp
                      with_reducible rfl
                    rotate_left
                    · simp only [Act.put, List.setIfInBounds_toArray, List.set_cons_zero, List.set_cons_succ, i64_w, i32_w]
                      rfl
                    refine pure_ (i := 7) (N := some 89) (v := ?_) (a' := ?_) #[true, true, true, true, true, true, true, true, false, false] rfl rfl (any_of HT_.out (by kernel_rfl)) (fun _ _ _ h => h) (Or.inl ⟨by rfl, ?_⟩) ?_ ?_
                    rotate_left
                    · intro w'
                      go_simp
                      with_reducible rfl
                    rotate_left
                    · simp only [Act.put, List.setIfInBounds_toArray, List.set_cons_zero, List.set_cons_succ, i64_w, i32_w]
                      rfl
                    refine pure_ (i := 8) (N := some 90) (v := ?_) (a' := ?_) #[true, true, true, true, true, true, true, true, true, false] rfl rfl (any_of HT_.out (by kernel_rfl)) (fun _ _ _ h => h) (Or.inl ⟨by rfl, ?_⟩) ?_ ?_
                    rotate_left
                    · intro w'
                      go_simp
                      with_reducible rfl
                    rotate_left
                    · simp only [Act.put, List.setIfInBounds_toArray, List.set_cons_zero, List.set_cons_succ, i64_w, i32_w]
                      rfl
                    refine last_ (i := 9) (N := none) #[true, true, true, true, true, true, true, true, true, true] rfl rfl (one_of HT_.out (by kernel_rfl)) (by decide) (fun K hK => ?_)
                    have hf0 := blk_frozen (blk_below BG.out hHeld) 2
                    have h0 := (blk_cell (blk_below BG.out hHeld) 2)
                    refine skip_ (w1 := ?_) (by rfl) rfl ?_ ?_
                    rotate_left
                    · go_simp
                      rfl
                    refine hK.out _ _ ?_
                    clear hK K
                    refine done_ (done_of HT_.out (by kernel_rfl)) ?_
                    have HM5 := HM4.out.below hHeld
                    have BE5 := blk_below BE4.out hHeld
                    rw [HWG.out]
                    obtain ⟨Aq, cq, Ar, cr, xq, Cq, lq, Cr, lr⟩ := HM5.bx
                    have HM6 := Aside0.mk (HM5.set (a2 := r) (b2 := b1) (sh2 := sh1 + grow e) 2 (.int .i64 (sh1 + grow e)) ⟨Aq, cq, Ar, cr, blk_put xq 2 _ rfl, Cq, lq, Cr, lr⟩)
                    have BE6 := Aside0.mk ((Below.heap_setCell w5 ⟨g, 2, none⟩ (.int .i64 (sh1 + grow e)) gE (show gE ≠ g by have := GE.out; omega)).trans BE5)
                    generalize w5.setCell ⟨g, 2, none⟩ (.int .i64 (sh1 + grow e)) = W6 at HM6 BE6 ⊢
                    clear HM5 BE5 xq Cq lq Cr lr hHeld hf0 h0 HM4 BG BE4 m2 e0 e1 e2
                    have e2 : W6.cell? ⟨gE, 2, none⟩ = some (.string e.f2) := (blk_cell BE6.out 2).trans rfl
                    have hwt := HWT.out
                    by_cases l : lo < 0
                    · have c1 : decide (lo < 0) = true := decide_eq_true l
                      have HL := Aside0.mk l
                      clear l
                      go_wp2
                      all_goals
                        go_roundg (r.length + b1.length + 1)
                        case measure => have := HK.out; simp only [List.length_cons] at this; omega
                        case rel =>
                          refine ⟨nextA ⟨lo, hi, sh1, first, second, e :: r, b1⟩ e r, ?_, ?_, ⟨rfl⟩, HGN, HM6, ⟨SR.nextA HM0.out HN0.out HSR.out⟩⟩
                          · show Value.int .i64 (e.f0 + sh1) = .int .i64 (if lo < 0 then e.f0 + sh1 else lo)
                            rw [if_pos HL.out]
                          · show Value.int .i64 _ = Value.int .i64 (max hi (e.f0 + sh1 + (e.f2.size : Int)))
                            congr 1
                            omega
                    · have c1 : decide (lo < 0) = false := decide_eq_false l
                      have HL := Aside0.mk l
                      clear l
                      go_wp2
                      all_goals
                        go_roundg (r.length + b1.length + 1)
                        case measure => have := HK.out; simp only [List.length_cons] at this; omega
                        case rel =>
                          refine ⟨nextA ⟨lo, hi, sh1, first, second, e :: r, b1⟩ e r, ?_, ?_, ⟨rfl⟩, HGN, HM6, ⟨SR.nextA HM0.out HN0.out HSR.out⟩⟩
                          · show Value.int .i64 lo = .int .i64 (if lo < 0 then e.f0 + sh1 else lo)
                            rw [if_neg (show ¬ lo < 0 by have := HL.out; omega)]
                          · show Value.int .i64 _ = Value.int .i64 (max hi (e.f0 + sh1 + (e.f2.size : Int)))
                            congr 1
                            omega
                  · rw [Bool.not_eq_true] at ht
                    rw [ht]
                    have HTK := Aside0.mk ht
                    clear ht
                    go_wp2
                    go_meet
                    case rel => exact ⟨rfl, rfl, rfl, HM1, ⟨fun e' r' h => by injection h with h1 h2; rw [← h1]; exact HTK.out⟩⟩
        case rest =>
          as_aux_lemma =>
            obtain ⟨rfl, rfl, rfl, HM1, HNT⟩ := hcut
            clear HMR
            obtain ⟨Aa, ca, Ab, cb, xg, CA, la, CB, lb⟩ := HM1.out.bx
            obtain ⟨nb, hnb⟩ : ∃ n, n = b1.length := ⟨_, rfl⟩
            rw [← hnb] at xg lb
            have m1 : wc.cell? ⟨g, 1, none⟩ = some (.slice Ab nb cb) := (blk_cell xg 1).trans rfl
            have hend : stepB ⟨lo, hi, sh1, first, second, a1, b1⟩ = none → S = ⟨lo, hi, sh1, first, second, a1, b1⟩ := by
              intro hb
              have h1 := HS.out
              rw [← HK.out] at h1
              have h2 : Q.stepG ⟨lo, hi, sh1, first, second, a1, b1⟩ = none := by
                cases a1 with
                | nil => exact hb
                | cons e r => rw [stepG_a, HNT.out e r rfl]; simpa using hb
              simp only [gS, h2] at h1
              exact h1.symm
            have HEND := Aside0.mk hend
            have XCA := Aside0.mk CA
            have XCB := Aside0.mk CB
            have XG := Aside0.mk xg
            have NB := Aside0.mk hnb
            have LA := Aside0.mk la
            have LB := Aside0.mk lb
            clear xg CA CB la lb hnb hend
            cases b1 with
            | nil =>
              have hnb := NB.out
              simp only [List.length_nil] at hnb
              subst hnb
              have hSe := HEND.out rfl
              have HSE := Aside0.mk hSe
              clear hSe
              go_wp2
              go_meet
              case rel => rw [HSE.out]; exact ⟨rfl, rfl, HM1, HSR⟩
            | cons f t =>
              have hnb := NB.out
              have d1 : decide (0 < nb) = true := decide_eq_true (by rw [hnb]; simp)
              have d2 : decide (0 < (nb : Int)) = true := decide_eq_true (by rw [hnb]; simp only [List.length_cons]; omega)
              obtain ⟨adb, eb, xb0, xb1, xb2⟩ := at_T42 (Kd.C_below XCB.out HM1.out.hb) 0 (by omega) (by simp)
              subst eb
              have qb : (0 < nb) = True := eq_true (by rw [hnb]; simp)
              have rb : rd_T42 (f :: t) 0 = f := rfl
              simp only [rb, Int.toNat_zero, Nat.zero_mul, Addr.add_zero'] at xb0 xb1 xb2
              clear rb hnb
              go_upto_region 15 with (fail)
              go_cut [121] (fun v121 w' => v121 = .bool (decide (lo < 0 ∨ f.f0 ≤ hi)) ∧ w' = wc)
              case first =>
                as_aux_lemma =>
                  by_cases l : lo < 0
                  · have c1 : decide (lo < 0) = true := decide_eq_true l
                    have HT := Aside0.mk (show decide (lo < 0 ∨ f.f0 ≤ hi) = true from decide_eq_true (Or.inl l))
                    clear l
                    go_wp2
                    go_meet
                    case rel => exact ⟨by rw [HT.out], rfl⟩
                  · have c1 : decide (lo < 0) = false := decide_eq_false l
                    have HT := Aside0.mk (show decide (lo < 0 ∨ f.f0 ≤ hi) = decide (f.f0 ≤ hi) by simp [l])
                    clear l
                    go_wp2
                    go_meet
                    case rel => exact ⟨by rw [HT.out], rfl⟩
              case rest =>
                as_aux_lemma =>
                  obtain ⟨rfl, rfl⟩ := hcut
                  by_cases ht : lo < 0 ∨ f.f0 ≤ hi
                  · rw [decide_eq_true ht]
                    have HTK := Aside0.mk (show stepB ⟨lo, hi, sh1, first, second, a1, f :: t⟩ = some (nextB ⟨lo, hi, sh1, first, second, a1, f :: t⟩ f t) by show (if lo < 0 ∨ f.f0 ≤ hi then some _ else none) = _; rw [if_pos ht])
                    clear ht
                    go_upto_region 17 with (fail)
                    obtain ⟨gE, hgE⟩ : ∃ g, wc.heap.size = g := ⟨_, rfl⟩
                    obtain ⟨W2, hW2⟩ : ∃ W, W = wc.alloc (Obj.cells #[Value.int IntKind.i64 f.f0, Value.int IntKind.i64 f.f1, Value.string f.f2] 42) := ⟨_, rfl⟩
                    rw [← hW2, hgE]
                    have BE := Aside0.mk (show W2.heap[gE]? = some (.cells #[.int .i64 f.f0, .int .i64 f.f1, .string f.f2] 42 (0, 0)) by rw [hW2, ← hgE]; exact blk_new _ _)
                    have XG2 := Aside0.mk (show W2.heap[g]? = some (.cells #[.slice Aa a1.length ca, .slice (some adb) nb cb, .int .i64 sh1, vo] 58 (0, 0)) by rw [hW2]; exact blk_alloc XG.out _)
                    have HM2 := Aside0.mk (show MR w0 w W2 g a1 (f :: t) sh1 first second u5 u6 vo out by rw [hW2]; exact HM1.out.below (below_alloc (Below.refl _ _) _))
                    have h6E : ∀ k, u6.ownBlock = some k → k < gE := fun k hk => by rw [← hgE]; exact Kd.R_lt HM1.out.r6 k hk
                    have hgE' : g < gE := by rw [← hgE]; exact blk_lt XG.out
                    have H6E := Aside0.mk h6E
                    have GE := Aside0.mk hgE'
                    clear h6E hgE' hgE hW2 HM1 XG m1 xb0 xb1 xb2
                    have m1 : W2.cell? ⟨g, 1, none⟩ = some (.slice (some adb) nb cb) := (blk_cell XG2.out 1).trans rfl
                    have mf := blk_frozen XG2.out 1
                    have s1 : (1 ≤ (nb : Int)) = True := eq_true (by rw [NB.out]; simp only [List.length_cons]; omega)
                    go_upto_region 18 with (fail)
                    have hCr := Kd.C_drop (m := 1) (c := cb) (by rw [← NB.out]; have := XCB.out; rw [← NB.out] at this; exact this) (by simp) (by rw [← NB.out]; exact LB.out)
                    have hna1 : nb - 1 = t.length := by rw [NB.out]; simp
                    have HM3 := Aside0.mk (HM2.out.set (a2 := a1) (b2 := t) (sh2 := sh1) 1 (.slice (if cb = 1 then some adb else some ⟨adb.block, adb.off + 3, none⟩) (nb - 1) (cb - 1)) ⟨_, _, _, _, (show (W2.setCell ⟨g, 1, none⟩ (.slice (if cb = 1 then some adb else some ⟨adb.block, adb.off + 3, none⟩) (nb - 1) (cb - 1))).heap[g]? = some (.cells #[.slice Aa a1.length ca, .slice (if cb = 1 then some adb else some ⟨adb.block, adb.off + 3, none⟩) t.length (cb - 1), .int .i64 sh1, vo] 58 (0, 0)) by rw [hna1]; exact blk_put XG2.out 1 _ rfl), XCA.out, LA.out, hCr, by rw [← hna1]; have := LB.out; omega⟩)
                    have BE3 := Aside0.mk ((Below.heap_setCell W2 ⟨g, 1, none⟩ (.slice (if cb = 1 then some adb else some ⟨adb.block, adb.off + 3, none⟩) (nb - 1) (cb - 1)) gE (show gE ≠ g by have := GE.out; omega)).trans BE.out)
                    generalize W2.setCell ⟨g, 1, none⟩ (.slice (if cb = 1 then some adb else some ⟨adb.block, adb.off + 3, none⟩) (nb - 1) (cb - 1)) = W3 at HM3 BE3 ⊢
                    clear HM2 BE XG2 hCr hna1 m1 mf s1
                    have e0 : W3.cell? ⟨gE, 0, none⟩ = some (.int .i64 f.f0) := (blk_cell BE3.out 0).trans rfl
                    have e1 : W3.cell? ⟨gE, 1, none⟩ = some (.int .i64 f.f1) := (blk_cell BE3.out 1).trans rfl
                    have e2 : W3.cell? ⟨gE, 2, none⟩ = some (.string f.f2) := (blk_cell BE3.out 2).trans rfl
                    have LF := Aside0.mk (show second.length ≤ 100000 by have := HSR.out.ln.2; simp only at this; omega)
                    have hgS : gS (a1.length + t.length + 1) (nextB ⟨lo, hi, sh1, first, second, a1, f :: t⟩ f t) = S := by
                      have h1 := HS.out
                      rw [← HK.out] at h1
                      have h2 : Q.stepG ⟨lo, hi, sh1, first, second, a1, f :: t⟩ = some (nextB ⟨lo, hi, sh1, first, second, a1, f :: t⟩ f t) := by
                        cases a1 with
                        | nil => exact HTK.out
                        | cons e r => rw [stepG_a, HNT.out e r rfl]; simpa using HTK.out
                      simp only [gS, h2, List.length_cons] at h1
                      exact h1
                    have HGN := Aside0.mk hgS
                    clear hgS HS HEND
                    go_upto_region 19 with (first | ((with_reducible refine gate_builtin (b := .append) (xs := #[.tmp 136, .tmp 138]) rfl ?_); at_builtin; refine Kd.R_append k42 (w0 := W3) w.heap.size rfl (.tmp 136) (.tmp 138) 22 42 (.agg #[(.int .i64 0), (.int .i64 0), (.string ⟨#[]⟩)]) 32 rfl hu22 info42 rfl (by decide) (by omega) u6 second f [.int .i64 f.f0, .int .i64 f.f1, .string f.f2] (fun k => k ≠ g ∧ some k ≠ u5.ownBlock) (fun _ => False) rfl rfl ?aP (fun _ hk => hk.elim) ?aF ?aO ?aB ?aS ?aL ?_; (case aP => exact k42_mkM _ _ _ f); (case aB => exact Below.refl _ _); (case aF => exact fun k hk => ⟨by have := HM3.out.gw; have := HM3.out.sz; omega, fun q => by have := Kd.R_lt HM3.out.r5 k q.symm; omega⟩); (case aO => exact HM3.out.r6); (case aS => exact HM3.out.sz); (case aL => have := LF.out; omega); intro v9 W4 ho hb hg hat; have HM4 := Aside0.mk (HM3.out.app6 ho hg); have BE4 := Aside0.mk (blk_grown BE3.out hg (fun q => by have := H6E.out gE q.symm; omega)); clear ho hb hg hat e0 e1 e2; have e0 : W4.cell? ⟨gE, 0, none⟩ = some (.int .i64 f.f0) := (blk_cell BE4.out 0).trans rfl; have e1 : W4.cell? ⟨gE, 1, none⟩ = some (.int .i64 f.f1) := (blk_cell BE4.out 1).trans rfl; have e2 : W4.cell? ⟨gE, 2, none⟩ = some (.string f.f2) := (blk_cell BE4.out 2).trans rfl))
                    clear HM3 BE3
                    by_cases l : lo < 0
                    · have c1 : decide (lo < 0) = true := decide_eq_true l
                      have HL := Aside0.mk l
                      clear l
                      go_wp2
                      all_goals
                        go_roundg (a1.length + t.length + 1)
                        case measure => have := HK.out; simp only [List.length_cons] at this; omega
                        case rel =>
                          refine ⟨nextB ⟨lo, hi, sh1, first, second, a1, f :: t⟩ f t, ?_, ?_, ⟨rfl⟩, HGN, HM4, ⟨SR.nextB HM0.out HSR.out⟩⟩
                          · show Value.int .i64 f.f0 = .int .i64 (if lo < 0 then f.f0 else lo)
                            rw [if_pos HL.out]
                          · show Value.int .i64 _ = Value.int .i64 (max hi f.f1)
                            congr 1
                            omega
                    · have c1 : decide (lo < 0) = false := decide_eq_false l
                      have HL := Aside0.mk l
                      clear l
                      go_wp2
                      all_goals
                        go_roundg (a1.length + t.length + 1)
                        case measure => have := HK.out; simp only [List.length_cons] at this; omega
                        case rel =>
                          refine ⟨nextB ⟨lo, hi, sh1, first, second, a1, f :: t⟩ f t, ?_, ?_, ⟨rfl⟩, HGN, HM4, ⟨SR.nextB HM0.out HSR.out⟩⟩
                          · show Value.int .i64 lo = .int .i64 (if lo < 0 then f.f0 else lo)
                            rw [if_neg (show ¬ lo < 0 by have := HL.out; omega)]
                          · show Value.int .i64 _ = Value.int .i64 (max hi f.f1)
                            congr 1
                            omega
                  · rw [decide_eq_false ht]
                    have hSe := HEND.out (by show (if lo < 0 ∨ f.f0 ≤ hi then some _ else none) = _; rw [if_neg ht])
                    have HSE := Aside0.mk hSe
                    clear hSe ht
                    go_wp2
                    go_meet
                    case rel => rw [HSE.out]; exact ⟨rfl, rfl, HM1, HSR⟩
  case rest =>
    as_aux_lemma =>
      obtain ⟨rfl, rfl, HM1, HS1⟩ := hcut
      clear H0 HGS HS0
      obtain ⟨Aa, ca, Ab, cb, xg, CA, la, CB, lb⟩ := HM1.out.bx
      obtain ⟨A5, c5, e5, hc5, hC5⟩ := Kd.R_reads HM1.out.r5
      obtain ⟨A6, c6, e6, hc6, hC6⟩ := Kd.R_reads HM1.out.r6
      subst e5
      subst e6
      have HC5 := Aside0.mk hC5
      have HC6 := Aside0.mk hC6
      have XG := Aside0.mk xg
      have CA := Aside0.mk CA
      have CB := Aside0.mk CB
      have LA := Aside0.mk la
      have LB := Aside0.mk lb
      have m2 : wc.cell? ⟨g, 2, none⟩ = some (.int .i64 S.sh) := (blk_cell xg 2).trans rfl
      have m3 : wc.cell? ⟨g, 3, none⟩ = some vo := (blk_cell xg 3).trans rfl
      have hw1 : wrap64 (S.lo - sh) = S.lo - sh := by have := HF.out; rw [w64] <;> omega
      have hw2 : wrap64 (S.hi - S.sh) = S.hi - S.sh := by have := HF.out; rw [w64] <;> omega
      clear xg la lb hC5 hC6 hc5 hc6 mg
      go_upto_region 22 with (fail)
      refine start_ (n := 25) (S := fun w' => Below wc.heap.size wc w') (ds := [21, 24]) #[false, false, false, false, false, false, false, false, false, false, false, false, false, false, false, false, false, false, false, false, false, false, false, false, false] (by kernel_rfl) rfl rfl (below_drew1 (Below.refl _ _)) (fun hHeld => ?_)
      refine with_tabW group.tab22 group.bits22 (fun HT_ HW_ => ?_)
      generalize wc.drew = wa at hHeld ⊢
      refine pure_ (i := 0) (N := some 148) (v := ?_) (a' := ?_) #[true, false, false, false, false, false, false, false, false, false, false, false, false, false, false, false, false, false, false, false, false, false, false, false, false] rfl rfl (any_of HT_.out (by kernel_rfl)) (fun _ _ _ h => h) (Or.inl ⟨by rfl, ?_⟩) ?_ ?_
      rotate_left
      · intro w'
        go_simp
        with_reducible rfl
      rotate_left
      · simp only [Act.put, List.setIfInBounds_toArray, List.set_cons_zero, List.set_cons_succ, i64_w, i32_w]
        rfl
      refine pure_ (i := 1) (N := some 149) (v := ?_) (a' := ?_) #[true, true, false, false, false, false, false, false, false, false, false, false, false, false, false, false, false, false, false, false, false, false, false, false, false] rfl rfl (any_of HT_.out (by kernel_rfl)) (fun _ _ _ h => h) (Or.inl ⟨by rfl, ?_⟩) ?_ ?_
      rotate_left
      · intro w'
        go_simp
        with_reducible rfl
      rotate_left
      · simp only [Act.put, List.setIfInBounds_toArray, List.set_cons_zero, List.set_cons_succ, i64_w, i32_w]
        rfl
      refine pure_ (i := 2) (N := some 150) (v := ?_) (a' := ?_) #[true, true, true, false, false, false, false, false, false, false, false, false, false, false, false, false, false, false, false, false, false, false, false, false, false] rfl rfl (any_of HT_.out (by kernel_rfl)) (fun _ _ _ h => h) (Or.inl ⟨by rfl, ?_⟩) ?_ ?_
      rotate_left
      · intro w'
        go_simp
        with_reducible rfl
      rotate_left
      · simp only [Act.put, List.setIfInBounds_toArray, List.set_cons_zero, List.set_cons_succ, i64_w, i32_w]
        rfl
      refine pure_ (i := 3) (N := some 151) (v := ?_) (a' := ?_) #[true, true, true, true, false, false, false, false, false, false, false, false, false, false, false, false, false, false, false, false, false, false, false, false, false] rfl rfl (any_of HT_.out (by kernel_rfl)) (fun _ _ _ h => h) (Or.inl ⟨by rfl, ?_⟩) ?_ ?_
      rotate_left
      · intro w'
        go_simp
        with_reducible rfl
      rotate_left
      · simp only [Act.put, List.setIfInBounds_toArray, List.set_cons_zero, List.set_cons_succ, i64_w, i32_w]
        rfl
      refine pure_ (i := 5) (N := some 153) (v := ?_) (a' := ?_) #[true, true, true, true, false, true, false, false, false, false, false, false, false, false, false, false, false, false, false, false, false, false, false, false, false] rfl rfl (any_of HT_.out (by kernel_rfl)) (fun _ _ _ h => h) (Or.inl ⟨by rfl, ?_⟩) ?_ ?_
      rotate_left
      · intro w'
        go_simp
        with_reducible rfl
      rotate_left
      · simp only [Act.put, List.setIfInBounds_toArray, List.set_cons_zero, List.set_cons_succ, i64_w, i32_w]
        rfl
      refine pure_ (i := 6) (N := some 154) (v := ?_) (a' := ?_) #[true, true, true, true, false, true, true, false, false, false, false, false, false, false, false, false, false, false, false, false, false, false, false, false, false] rfl rfl (any_of HT_.out (by kernel_rfl)) (fun _ _ _ h => h) (Or.inl ⟨by rfl, ?_⟩) ?_ ?_
      rotate_left
      · intro w'
        go_simp
        with_reducible rfl
      rotate_left
      · simp only [Act.put, List.setIfInBounds_toArray, List.set_cons_zero, List.set_cons_succ, i64_w, i32_w]
        rfl
      refine pure_ (i := 7) (N := some 155) (v := ?_) (a' := ?_) #[true, true, true, true, false, true, true, true, false, false, false, false, false, false, false, false, false, false, false, false, false, false, false, false, false] rfl rfl (any_of HT_.out (by kernel_rfl)) (fun _ _ _ h => h) (Or.inl ⟨by rfl, ?_⟩) ?_ ?_
      rotate_left
      · intro w'
        go_simp
        with_reducible rfl
      rotate_left
      · simp only [Act.put, List.setIfInBounds_toArray, List.set_cons_zero, List.set_cons_succ, i64_w, i32_w]
        rfl
      refine pure_ (i := 8) (N := some 156) (v := ?_) (a' := ?_) #[true, true, true, true, false, true, true, true, true, false, false, false, false, false, false, false, false, false, false, false, false, false, false, false, false] rfl rfl (any_of HT_.out (by kernel_rfl)) (fun _ _ _ h => h) (Or.inl ⟨by rfl, ?_⟩) ?_ ?_
      rotate_left
      · intro w'
        go_simp
        with_reducible rfl
      rotate_left
      · simp only [Act.put, List.setIfInBounds_toArray, List.set_cons_zero, List.set_cons_succ, i64_w, i32_w]
        rfl
      refine pure_ (i := 9) (N := some 157) (v := ?_) (a' := ?_) #[true, true, true, true, false, true, true, true, true, true, false, false, false, false, false, false, false, false, false, false, false, false, false, false, false] rfl rfl (any_of HT_.out (by kernel_rfl)) (fun _ _ _ h => h) (Or.inl ⟨by rfl, ?_⟩) ?_ ?_
      rotate_left
      · intro w'
        go_simp
        with_reducible rfl
      rotate_left
      · simp only [Act.put, List.setIfInBounds_toArray, List.set_cons_zero, List.set_cons_succ, i64_w, i32_w]
        rfl
      refine pure_ (i := 10) (N := some 158) (v := ?_) (a' := ?_) #[true, true, true, true, false, true, true, true, true, true, true, false, false, false, false, false, false, false, false, false, false, false, false, false, false] rfl rfl (any_of HT_.out (by kernel_rfl)) (fun _ _ _ h => h) (Or.inl ⟨by rfl, ?_⟩) ?_ ?_
      rotate_left
      · intro w'
        go_simp
        with_reducible rfl
      rotate_left
      · simp only [Act.put, List.setIfInBounds_toArray, List.set_cons_zero, List.set_cons_succ, i64_w, i32_w]
        rfl
      refine pure_ (i := 11) (N := some 159) (v := ?_) (a' := ?_) #[true, true, true, true, false, true, true, true, true, true, true, true, false, false, false, false, false, false, false, false, false, false, false, false, false] rfl rfl (any_of HT_.out (by kernel_rfl)) (fun _ _ _ h => h) (Or.inl ⟨by rfl, ?_⟩) ?_ ?_
      rotate_left
      · intro w'
        go_simp
        with_reducible rfl
      rotate_left
      · simp only [Act.put, List.setIfInBounds_toArray, List.set_cons_zero, List.set_cons_succ, i64_w, i32_w]
        rfl
      refine pure_ (i := 14) (N := some 162) (v := ?_) (a' := ?_) #[true, true, true, true, false, true, true, true, true, true, true, true, false, false, true, false, false, false, false, false, false, false, false, false, false] rfl rfl (any_of HT_.out (by kernel_rfl)) (fun _ _ _ h => h) (Or.inl ⟨by rfl, ?_⟩) ?_ ?_
      rotate_left
      · intro w'
        go_simp
        with_reducible rfl
      rotate_left
      · simp only [Act.put, List.setIfInBounds_toArray, List.set_cons_zero, List.set_cons_succ, i64_w, i32_w]
        rfl
      refine pure_ (i := 15) (N := some 163) (v := ?_) (a' := ?_) #[true, true, true, true, false, true, true, true, true, true, true, true, false, false, true, true, false, false, false, false, false, false, false, false, false] rfl rfl (any_of HT_.out (by kernel_rfl)) (fun _ _ _ h => h) (Or.inl ⟨by rfl, ?_⟩) ?_ ?_
      rotate_left
      · intro w'
        go_simp
        with_reducible rfl
      rotate_left
      · simp only [Act.put, List.setIfInBounds_toArray, List.set_cons_zero, List.set_cons_succ, i64_w, i32_w]
        rfl
      refine pure_ (i := 16) (N := some 164) (v := ?_) (a' := ?_) #[true, true, true, true, false, true, true, true, true, true, true, true, false, false, true, true, true, false, false, false, false, false, false, false, false] rfl rfl (any_of HT_.out (by kernel_rfl)) (fun _ _ _ h => h) (Or.inl ⟨by rfl, ?_⟩) ?_ ?_
      rotate_left
      · intro w'
        go_simp
        with_reducible rfl
      rotate_left
      · simp only [Act.put, List.setIfInBounds_toArray, List.set_cons_zero, List.set_cons_succ, i64_w, i32_w]
        rfl
      refine pure_ (i := 17) (N := some 165) (v := ?_) (a' := ?_) #[true, true, true, true, false, true, true, true, true, true, true, true, false, false, true, true, true, true, false, false, false, false, false, false, false] rfl rfl (any_of HT_.out (by kernel_rfl)) (fun _ _ _ h => h) (Or.inl ⟨by rfl, ?_⟩) ?_ ?_
      rotate_left
      · intro w'
        go_simp
        with_reducible rfl
      rotate_left
      · simp only [Act.put, List.setIfInBounds_toArray, List.set_cons_zero, List.set_cons_succ, i64_w, i32_w]
        rfl
      refine take_ (i := 4) (N := some 152) (v := ?_) (a' := ?_) #[true, true, true, true, true, true, true, true, true, true, true, true, false, false, true, true, true, true, false, false, false, false, false, false, false] rfl rfl (take_ofW HT_.out HW_.out (by kernel_rfl)) (fun _ _ _ h => h) (Or.inl ⟨by rfl, ?_⟩) hHeld ?_ ?_
      rotate_left
      · intro w' hS
        have h0 := (hS.cell (World.block_lt_of_cell? _ _ m2)).trans m2
        have h1 := (hS.cell (World.block_lt_of_cell? _ _ m3)).trans m3
        clear hS
        go_simp
        with_reducible rfl
      rotate_left
      · simp only [Act.put, List.setIfInBounds_toArray, List.set_cons_zero, List.set_cons_succ, i64_w, i32_w]
        rfl
      refine take_ (i := 12) (N := some 160) (v := ?_) (a' := ?_) #[true, true, true, true, true, true, true, true, true, true, true, true, true, false, true, true, true, true, false, false, false, false, false, false, false] rfl rfl (take_ofW HT_.out HW_.out (by kernel_rfl)) (fun _ _ _ h => h) (Or.inl ⟨by rfl, ?_⟩) hHeld ?_ ?_
      rotate_left
      · intro w' hS
        have h0 := (hS.cell (World.block_lt_of_cell? _ _ m2)).trans m2
        have h1 := (hS.cell (World.block_lt_of_cell? _ _ m3)).trans m3
        clear hS
        go_simp
        with_reducible rfl
      rotate_left
      · simp only [Act.put, List.setIfInBounds_toArray, List.set_cons_zero, List.set_cons_succ, i64_w, i32_w]
        rfl
      refine pure_ (i := 13) (N := some 161) (v := ?_) (a' := ?_) #[true, true, true, true, true, true, true, true, true, true, true, true, true, true, true, true, true, true, false, false, false, false, false, false, false] rfl rfl (any_of HT_.out (by kernel_rfl)) (fun _ _ _ h => h) (Or.inl ⟨by rfl, ?_⟩) ?_ ?_
      rotate_left
      · intro w'
        go_simp
        with_reducible rfl
      rotate_left
      · simp only [Act.put, List.setIfInBounds_toArray, List.set_cons_zero, List.set_cons_succ, i64_w, i32_w]
        rfl
      refine one_ (i := 18) (N := some 166) #[true, true, true, true, true, true, true, true, true, true, true, true, true, true, true, true, true, true, true, false, false, false, false, false, false] rfl rfl (one_of HT_.out (by kernel_rfl)) (by decide) (fun K hK => ?_)
      refine goes_ Try.func47 (by kernel_rfl) rfl #[.slice A5 S.first.length c5, .slice A6 S.second.length c6, .int .i64 S.lo, .int .i64 S.hi] (by rfl) rfl rfl (by (try simp only [List.map_toArray, List.map_cons, List.map_nil]); first | done | rfl) ?_
      refine (written.calls S.first S.second A5 c5 A6 c6 S.lo S.hi _ (Kd.C_below HC5.out hHeld) (Kd.C_below HC6.out hHeld) HS1.out.fp HS1.out.sp ⟨HLO.out, by have := HS1.out.sl; omega⟩ ⟨HS1.out.sh_.1, by have := HS1.out.sh_; omega⟩ (by have := HS1.out.ln; omega) (by have := HS1.out.ln; omega) HWL.out).mono ?_
      rintro e' w5 ⟨rfl, hb5⟩
      refine ⟨_, rfl, ?_⟩
      have HW5 := Aside0.mk (below_step hHeld hb5)
      refine hK.out _ _ HW5.out (fun hHeld => ?_)
      clear hb5
      clear hK K
      refine norm_ (a' := ?_) ?_ ?_
      rotate_left
      · show Act.put _ (some 166) _ = _
        simp only [Act.put, List.setIfInBounds_toArray, List.set_cons_zero, List.set_cons_succ, i64_w, i32_w]
        rfl
      refine pure_ (i := 19) (N := some 167) (v := ?_) (a' := ?_) #[true, true, true, true, true, true, true, true, true, true, true, true, true, true, true, true, true, true, true, true, false, false, false, false, false] rfl rfl (any_of HT_.out (by kernel_rfl)) (fun _ _ _ h => h) (Or.inl ⟨by rfl, ?_⟩) ?_ ?_
      rotate_left
      · intro w'
        go_simp
        with_reducible rfl
      rotate_left
      · simp only [Act.put, List.setIfInBounds_toArray, List.set_cons_zero, List.set_cons_succ, i64_w, i32_w]
        rfl
      refine one_ (i := 20) (N := some 168) #[true, true, true, true, true, true, true, true, true, true, true, true, true, true, true, true, true, true, true, true, true, false, false, false, false] rfl rfl (one_of HT_.out (by kernel_rfl)) (by decide) (fun K hK => ?_)
      refine value_ (w1 := ?_) (v := ?_) (by rfl) rfl ?_ ?_
      rotate_left 2
      · go_simp
        constructor
        · rfl
        · rfl
      refine hK.out _ _ (below_alloc HW5.out _) (fun hHeld => ?_)
      clear hK K
      refine norm_ (a' := ?_) ?_ ?_
      rotate_left
      · show Act.put _ (some 168) _ = _
        simp only [Act.put, List.setIfInBounds_toArray, List.set_cons_zero, List.set_cons_succ, i64_w, i32_w]
        rfl
      refine last_ (i := 21) (N := some 169) #[true, true, true, true, true, true, true, true, true, true, true, true, true, true, true, true, true, true, true, true, true, true, false, false, false] rfl rfl (one_of HT_.out (by kernel_rfl)) (by decide) (fun K hK => ?_)
      refine Kd.R_append_step k42 (w0 := w0) w0.heap.size (by rfl) (.tmp 152) (.tmp 168) 22 42 (.agg #[(.int .i64 0), (.int .i64 0), (.string ⟨#[]⟩)]) 32 rfl Try.underlying22 info42 rfl (by decide) (by omega) vo out (⟨S.lo - sh, S.hi - S.sh, strOfNums (writG S.first S.hi S.second S.lo)⟩ : S42) [.int .i64 (S.lo - sh), .int .i64 (S.hi - S.sh), .string (strOfNums (writG S.first S.hi S.second S.lo))] (fun k => k ≠ g) (fun _ => False) rfl rfl ?aP (fun _ hk => hk.elim) ?aF ?aO ?aB ?aS ?aL ?_
      case aP => exact k42_mkM _ _ _ (⟨S.lo - sh, S.hi - S.sh, strOfNums (writG S.first S.hi S.second S.lo)⟩ : S42)
      case aB => exact below_step HM1.out.hb HW5.out
      case aF => exact fun k hk => by have := HM1.out.gw; have := HM1.out.sz; have := HW5.out.size; omega
      case aO => exact Kd.R_mono (Kd.R_below HM1.out.ro HW5.out) (fun k hk => hk.1)
      case aS => exact Nat.le_trans HM1.out.hb.size HW5.out.size
      case aL => have := HOL.out; omega
      intro v9 W7 ho hb hg hat
      obtain ⟨A9, c9, e9⟩ := Kd.R_slice ho
      obtain ⟨nO, hnO⟩ : ∃ k, k = (out ++ [(⟨S.lo - sh, S.hi - S.sh, strOfNums (writG S.first S.hi S.second S.lo)⟩ : S42)]).length := ⟨_, rfl⟩
      rw [← hnO] at e9
      subst e9
      clear hnO
      have BG7 := Aside0.mk (blk_grown (blk_below XG.out HW5.out) hg (Kd.R_away HM1.out.ro (fun _ hk => hk.1)))
      have HO7 := Aside0.mk ho
      have HB7 := Aside0.mk hb
      clear ho hb hg hat
      refine hK.out _ _ ?_
      clear hK K
      refine norm_ (a' := ?_) ?_ ?_
      rotate_left
      · show Act.put _ (some 169) _ = _
        simp only [Act.put, List.setIfInBounds_toArray, List.set_cons_zero, List.set_cons_succ, i64_w, i32_w]
        rfl
      refine pure_ (i := 22) (N := some 170) (v := ?_) (a' := ?_) #[true, true, true, true, true, true, true, true, true, true, true, true, true, true, true, true, true, true, true, true, true, true, true, false, false] rfl rfl (any_of HT_.out (by kernel_rfl)) (fun _ _ _ h => h) (Or.inl ⟨by rfl, ?_⟩) ?_ ?_
      rotate_left
      · intro w'
        go_simp
        with_reducible rfl
      rotate_left
      · simp only [Act.put, List.setIfInBounds_toArray, List.set_cons_zero, List.set_cons_succ, i64_w, i32_w]
        rfl
      refine pure_ (i := 23) (N := some 171) (v := ?_) (a' := ?_) #[true, true, true, true, true, true, true, true, true, true, true, true, true, true, true, true, true, true, true, true, true, true, true, true, false] rfl rfl (any_of HT_.out (by kernel_rfl)) (fun _ _ _ h => h) (Or.inl ⟨by rfl, ?_⟩) ?_ ?_
      rotate_left
      · intro w'
        go_simp
        with_reducible rfl
      rotate_left
      · simp only [Act.put, List.setIfInBounds_toArray, List.set_cons_zero, List.set_cons_succ, i64_w, i32_w]
        rfl
      refine last_ (i := 24) (N := none) #[true, true, true, true, true, true, true, true, true, true, true, true, true, true, true, true, true, true, true, true, true, true, true, true, true] rfl rfl (one_of HT_.out (by kernel_rfl)) (by decide) (fun K hK => ?_)
      have hf0 := blk_frozen BG7.out 3
      have h0 := (blk_cell BG7.out 3)
      refine skip_ (w1 := ?_) (by rfl) rfl ?_ ?_
      rotate_left
      · go_simp
        rfl
      refine hK.out _ _ ?_
      clear hK K
      refine done_ (done_of HT_.out (by kernel_rfl)) ?_
      go_wp2
      (try simp only [Exit.inBlock, Exit.then])
      refine Go.Great.bodyPost_end0 (fn := Try.f41) ?_ ?_ ?_
      · rfl
      · rfl
      refine ⟨⟨_, rfl⟩, .slice A9 nO c9, ⟨Aa, ca, Ab, cb, blk_put BG7.out 3 _ rfl, CA.out, LA.out, CB.out, LB.out⟩, ?_, ?_⟩
      · exact Kd.R_far (p := ⟨g, 3, none⟩) HO7.out (fun k hk => hk) _
      · exact below_set HB7.out HM1.out.g0
end Go.Proofs.Ytaihajmdngoeiaa.F

namespace Go.Proofs.Ytaihajmdngoeiaa.Q
open Go.RowKit Go.Proofs.YtaihajmdngoeiaaW.PrintWords Go.Proofs.YtaihajmdngoeiaaW.PrintLast Go.Proofs.YtaihajmdngoeiaaW.PrintMore
open Go.Proofs.Ytaihajmdngoeiaa.F
set_option linter.unusedVariables false
set_option linter.unusedSimpArgs false

/-- A run's numbers are small. -/
def Rb (r : S61) : Prop := (r.f0 = true → 0 ≤ r.f1 ∧ r.f2 ≤ 5000000000000000000) ∧ (r.f3.size : Int) ≤ 5000000000000000000
theorem size_run (r : S61) (h : Rn r) (hb : Rb r) : monikerref1_Run_size.f r.f0 r.f1 r.f2 r.f3 = some (rsz r) := by
  unfold monikerref1_Run_size.f rsz
  unfold Rn at h
  by_cases e : r.f0 = true
  · rw [if_pos e] at h
    have := hb.1 e
    rw [if_pos e, if_pos e, w64] <;> omega
  · rw [if_neg e, if_neg e]
theorem rsz_le (r : S61) (h : Rn r) (hb : Rb r) : 0 ≤ rsz r ∧ rsz r ≤ 5000000000000000000 := by
  unfold rsz
  unfold Rn at h
  by_cases e : r.f0 = true
  · rw [if_pos e] at h ⊢
    have := hb.1 e
    omega
  · rw [if_neg e]
    have := hb.2
    omega
set_option maxHeartbeats 1000000 in
theorem part_run (r : S61) (h : Rn r) (hb : Rb r) (a b : Int) (h0 : 0 ≤ a) (h1 : a < b) (h2 : b ≤ rsz r) : monikerref1_Run_part.f r.f0 r.f1 r.f2 r.f3 a b = some ((partS r a b).f0, (partS r a b).f1, (partS r a b).f2, (partS r a b).f3) := by
  unfold monikerref1_Run_part.f partS
  unfold Rn at h
  unfold rsz at h2
  by_cases e : r.f0 = true
  · rw [if_pos e] at h h2
    have := hb.1 e
    rw [if_pos e, if_pos e, w64 (x := r.f1 + a) (by omega) (by omega), w64 (x := r.f1 + b) (by omega) (by omega)]
  · rw [if_neg e] at h2
    rw [if_neg e, if_neg e, if_pos h0, if_pos (by omega), if_pos h2]
theorem mx_is (x y : Int) : mx x y = max x y := by unfold mx; omega
theorem mn_is (x y : Int) : mn x y = min x y := by unfold mn; omega
attribute [local irreducible] rsz sum_ keptS doneC
set_option maxHeartbeats 1000000 in
theorem kept_loop (l : List S61) (hR : ∀ r ∈ l, Rn r) (hRb : ∀ r ∈ l, Rb r) (hlen : l.length ≤ 1000000000) (x y : Int) (hx : 0 ≤ x ∧ x ≤ 5000000000000000000) (hy : 0 ≤ y ∧ y ≤ 5000000000000000000) (d : Nat) : ∀ (i : Nat) (p : Int) (out : List S61), i ≤ l.length → l.length - i = d → 0 ≤ p → p + sum_ (l.drop i) ≤ 5000000000000000000 → out.length + 2 * d ≤ 3000000000 →
    Ev (fun k => monikerref1_kept.l0 k l p x y out (i : Int)) (out ++ keptS p x y (l.drop i)) := by
  induction d with
  | zero =>
    intro i p out h1 h2 hp hs ho
    have A1 : ((i : Int) < (l.length : Int)) = False := eq_false (by omega)
    rw [List.drop_eq_nil_of_le (by omega)]
    refine ⟨2, fun k hk => ?_⟩
    obtain ⟨k, rfl⟩ : ∃ m, k = m + 2 := ⟨k - 2, by omega⟩
    simp only [monikerref1_kept.l0, monikerref1_kept.j1, A1, Bool.false_eq_true, if_false, keptS, List.append_nil]
  | succ d ih =>
    intro i p out h1 h2 hp hs ho
    have hi : i < l.length := by omega
    have hm : l[i] ∈ l := List.getElem_mem hi
    have A1 : ((i : Int) < (l.length : Int)) = True := eq_true (by omega)
    have A2 : ((0 : Int) ≤ (i : Int)) = True := eq_true (by omega)
    have A3 : (out.length < 3518437208883) = True := eq_true (by omega)
    have hw : wrap64 ((i : Int) + 1) = ((i + 1 : Nat) : Int) := by rw [w64] <;> omega
    rw [List.drop_eq_getElem_cons hi] at hs ⊢
    simp only [sum_] at hs
    have hsz := size_run _ (hR _ hm) (hRb _ hm)
    obtain ⟨z0, z1⟩ := rsz_le _ (hR _ hm) (hRb _ hm)
    have hpos := sum_pos (l.drop (i + 1)) (fun r hr => hR r (List.mem_of_mem_drop hr))
    have w1 : wrap64 (x - p) = x - p := by rw [w64] <;> omega
    have w2 : wrap64 (y - p) = y - p := by rw [w64] <;> omega
    have w3 : wrap64 (p + rsz l[i]) = p + rsz l[i] := by rw [w64] <;> omega
    have IH := fun out' ho' => ih (i + 1) (p + rsz l[i]) out' (by omega) (by omega) (by omega) (by omega) ho'
    by_cases hpy : p ≤ y
    · have hcond : ∀ k, monikerref1_kept.l0 (k + 2) l p x y out (i : Int) = monikerref1_kept.j2 k l p x y out (i : Int) (rsz l[i]) (decide (rsz l[i] = 0 ∧ x ≤ p)) := by
        intro k
        simp only [monikerref1_kept.l0, monikerref1_kept.j1, A1, A2, if_true, hpy, decide_true]
        rw [rd61_at l i hi, hsz]
        simp only [Option.bind_some]
        by_cases c1 : rsz l[i] = 0
        · rw [if_pos c1]
          by_cases c2 : p ≥ x
          · rw [if_pos c2, decide_eq_true (show rsz l[i] = 0 ∧ x ≤ p from ⟨c1, c2⟩)]
          · rw [if_neg c2, decide_eq_false (fun h => c2 h.2)]
        · rw [if_neg c1, decide_eq_false (fun h => c1 h.1)]
      simp only [keptS]
      rw [if_pos hpy]
      by_cases c : rsz l[i] = 0 ∧ x ≤ p
      · have hnp : ¬ (max (x - p) 0 < min (y - p) (rsz l[i])) := by omega
        rw [if_pos c, if_neg hnp]
        obtain ⟨K, hK⟩ := IH (out ++ [l[i]]) (by rw [List.length_append, List.length_singleton]; omega)
        refine ⟨K + 3, fun k hk => ?_⟩
        obtain ⟨k, rfl⟩ : ∃ m, k = m + 3 := ⟨k - 3, by omega⟩
        refine (hcond (k + 1)).trans ?_
        rw [decide_eq_true c]
        simp only [monikerref1_kept.j2, if_true, A1, A2, A3, Option.bind_some, w1, w2, w3, hw]
        rw [mx_is, mn_is, if_neg hnp, rd61_at l i hi]
        have := hK k (by omega)
        simpa using this
      · rw [if_neg c]
        by_cases hq : max (x - p) 0 < min (y - p) (rsz l[i])
        · rw [if_pos hq]
          have hpr := part_run _ (hR _ hm) (hRb _ hm) (max (x - p) 0) (min (y - p) (rsz l[i])) (by omega) hq (by omega)
          obtain ⟨K, hK⟩ := IH (out ++ [partS l[i] (max (x - p) 0) (min (y - p) (rsz l[i]))]) (by rw [List.length_append, List.length_singleton]; omega)
          refine ⟨K + 3, fun k hk => ?_⟩
          obtain ⟨k, rfl⟩ : ∃ m, k = m + 3 := ⟨k - 3, by omega⟩
          refine (hcond (k + 1)).trans ?_
          rw [decide_eq_false c]
          simp only [monikerref1_kept.j2, Bool.false_eq_true, if_false, if_true, A1, A2, A3, w1, w2, w3, hw]
          rw [mx_is, mn_is, if_pos hq, rd61_at l i hi, hpr]
          simp only [Option.bind_some]
          have := hK k (by omega)
          simpa using this
        · rw [if_neg hq]
          obtain ⟨K, hK⟩ := IH out (by omega)
          refine ⟨K + 3, fun k hk => ?_⟩
          obtain ⟨k, rfl⟩ : ∃ m, k = m + 3 := ⟨k - 3, by omega⟩
          refine (hcond (k + 1)).trans ?_
          rw [decide_eq_false c]
          simp only [monikerref1_kept.j2, Bool.false_eq_true, if_false, w1, w2, w3, hw]
          rw [mx_is, mn_is, if_neg hq]
          have := hK k (by omega)
          simpa using this
    · simp only [keptS]
      rw [if_neg hpy]
      refine ⟨2, fun k hk => ?_⟩
      obtain ⟨k, rfl⟩ : ∃ m, k = m + 2 := ⟨k - 2, by omega⟩
      simp only [monikerref1_kept.l0, monikerref1_kept.j1, A1, if_true, decide_eq_false hpy, Bool.false_eq_true, if_false, List.append_nil]
theorem kept_is (l : List S61) (hR : ∀ r ∈ l, Rn r) (hRb : ∀ r ∈ l, Rb r) (hlen : l.length ≤ 1000000000) (p x y : Int) (hx : 0 ≤ x ∧ x ≤ 5000000000000000000) (hy : 0 ≤ y ∧ y ≤ 5000000000000000000) (hp : 0 ≤ p) (hs : p + sum_ l ≤ 5000000000000000000) : Ev (fun k => monikerref1_kept.f k l p x y) (keptS p x y l) := by
  unfold monikerref1_kept.f
  have := kept_loop l hR hRb hlen x y hx hy l.length 0 p [] (by omega) (by omega) hp (by simpa using hs) (by simp; omega)
  simpa using this
theorem keptS_len (x y : Int) : ∀ (l : List S61) (p : Int), (keptS p x y l).length ≤ 2 * l.length
  | [], p => by simp [keptS]
  | r :: l, p => by
    have := keptS_len x y l (p + rsz r)
    simp only [keptS]
    split
    · simp only [List.length_append, List.length_cons]
      have h1 : (if rsz r = 0 ∧ x ≤ p then [r] else []).length ≤ 1 := by split <;> simp
      have h2 : (if max (x - p) 0 < min (y - p) (rsz r) then [partS r (max (x - p) 0) (min (y - p) (rsz r))] else []).length ≤ 1 := by split <;> simp
      omega
    · simp
set_option maxHeartbeats 1000000 in
theorem size_loop (l : List S61) (hR : ∀ r ∈ l, Rn r) (hRb : ∀ r ∈ l, Rb r) (hlen : l.length ≤ 1000000000) (d : Nat) : ∀ (i : Nat) (p : Int), i ≤ l.length → l.length - i = d → 0 ≤ p → p + sum_ (l.drop i) ≤ 5000000000000000000 →
    Ev (fun k => monikerref1_Size.l0 k l p (i : Int)) (p + sum_ (l.drop i)) := by
  induction d with
  | zero =>
    intro i p h1 h2 hp hs
    have A1 : ((i : Int) < (l.length : Int)) = False := eq_false (by omega)
    rw [List.drop_eq_nil_of_le (by omega)]
    refine ⟨1, fun k hk => ?_⟩
    obtain ⟨k, rfl⟩ : ∃ m, k = m + 1 := ⟨k - 1, by omega⟩
    simp only [monikerref1_Size.l0, A1, if_false, sum_, Int.add_zero]
  | succ d ih =>
    intro i p h1 h2 hp hs
    have hi : i < l.length := by omega
    have hm : l[i] ∈ l := List.getElem_mem hi
    have A1 : ((i : Int) < (l.length : Int)) = True := eq_true (by omega)
    have A2 : ((0 : Int) ≤ (i : Int)) = True := eq_true (by omega)
    have hw : wrap64 ((i : Int) + 1) = ((i + 1 : Nat) : Int) := by rw [w64] <;> omega
    rw [List.drop_eq_getElem_cons hi] at hs ⊢
    simp only [sum_] at hs ⊢
    have hsz := size_run _ (hR _ hm) (hRb _ hm)
    obtain ⟨z0, z1⟩ := rsz_le _ (hR _ hm) (hRb _ hm)
    have hpos := sum_pos (l.drop (i + 1)) (fun r hr => hR r (List.mem_of_mem_drop hr))
    have w3 : wrap64 (p + rsz l[i]) = p + rsz l[i] := by rw [w64] <;> omega
    obtain ⟨K, hK⟩ := ih (i + 1) (p + rsz l[i]) (by omega) (by omega) (by omega) (by omega)
    refine ⟨K + 1, fun k hk => ?_⟩
    obtain ⟨k, rfl⟩ : ∃ m, k = m + 1 := ⟨k - 1, by omega⟩
    have g := hK k (by omega)
    simp only at g
    simp only [monikerref1_Size.l0, A1, A2, if_true]
    rw [rd61_at l i hi, hsz]
    simp only [Option.bind_some, w3, hw]
    rw [g]
    congr 1
    omega
end Go.Proofs.Ytaihajmdngoeiaa.Q

namespace Go.Proofs.Ytaihajmdngoeiaa.Q
open Go.RowKit Go.Proofs.YtaihajmdngoeiaaW.PrintWords Go.Proofs.YtaihajmdngoeiaaW.PrintLast Go.Proofs.YtaihajmdngoeiaaW.PrintMore
open Go.Proofs.Ytaihajmdngoeiaa.F
set_option linter.unusedVariables false
set_option linter.unusedSimpArgs false
theorem ar_sub {n i d : Nat} (h : n - i = d + 1) : n - (i + 1) = d := by omega
theorem ar_len {o k c q L N : Nat} (h : o + (q + c) ≤ N) (hk : k ≤ 2 * L) (hc : 2 * L + 2 ≤ c) : o + k + 1 + q ≤ N := by omega
theorem ar_lt {o k c q L : Nat} (h : o + (q + c) ≤ 200000000000) (hk : k ≤ 2 * L) (hc : 2 * L + 2 ≤ c) : o + k < 3518437208883 := by omega
theorem ar_rng {x y s : Int} (h0 : 0 ≤ x) (h1 : x ≤ y) (h2 : y ≤ s) (h3 : s ≤ 4900000000000000000) : 0 ≤ x ∧ x ≤ 5000000000000000000 := by omega
theorem ar_cap {x s : Int} (h1 : x = s) (h3 : s ≤ 4900000000000000000) : x ≤ 5000000000000000000 := by omega
theorem ar_wrap {b r s t : Int} (h0 : 0 ≤ b) (h1 : 0 ≤ r) (h2 : 0 ≤ t) (h3 : b + (r + t) = s) (h4 : s ≤ 4900000000000000000) : wrap64 (b + r) = b + r := by rw [w64] <;> omega
theorem ar_cons {k L : Nat} (h : k + 1 ≤ L) : k ≤ L := by omega
theorem ar_big {k : Nat} (h : k ≤ 1000000) : k ≤ 1000000000 := by omega
attribute [local irreducible] rsz sum_ keptS doneC
set_option maxRecDepth 10000
set_option maxHeartbeats 1000000 in
/-- The runs that end ahead of where the next edit begins are left out. -/
theorem done_gen (l : List S61) (size : Int) (es : List S42) (hR0 : ∀ r ∈ l, Rn r) (hsz0 : sum_ l = size) (hsb : size ≤ 4900000000000000000) (hlen0 : l.length ≤ 1000000) (hes : es.length ≤ 65536) (c : Nat) (hc : 2 * l.length + 2 ≤ c) : ∀ (d : Nat) (i : Nat) (q : List S61) (beh p : Int) (out : List S61), i ≤ es.length → es.length - i = d → (∀ r ∈ q, Rn r) → (∀ r ∈ q, Rb r) → q.length ≤ l.length → 0 ≤ beh → beh + sum_ q = size → 0 ≤ p → Sd size p (es.drop i) → (∀ x y, p ≤ x → x ≤ y → keptS beh x y q = keptS 0 x y l) → out.length + c * (d + 1) ≤ 200000000000 →
    Ev (fun k => monikerref1_Done.l0 k q es out p size beh (i : Int)) (out ++ doneC l size p (es.drop i)) := by
  have sd_le : ∀ (es : List S42) (p : Int), Sd size p es → p ≤ size := by
    intro es
    induction es with
    | nil => intro p h; exact h
    | cons e t ih => intro p h; have := ih e.f1 h.2.2; have := h.1; have := h.2.1; omega
  intro d
  induction d with
  | zero =>
    intro i q beh p out h1 h2 hR hRb hql hb hsum hp hSd hk ho0
    have ho : out.length + c ≤ 200000000000 := by simpa using ho0
    clear ho0
    have A1 : ((i : Int) < (es.length : Int)) = False := eq_false (by omega)
    rw [List.drop_eq_nil_of_le (by omega)] at hSd ⊢
    have hSd' : p ≤ size := hSd
    simp only [doneC]
    have hkk := kept_is q hR hRb (by omega) beh p size (by omega) (by omega) hb (by omega)
    rw [hk p size (Int.le_refl _) hSd'] at hkk
    obtain ⟨K, hK⟩ := hkk
    have hl := keptS_len p size l 0
    refine ⟨K + 1, fun k hk => ?_⟩
    obtain ⟨k, rfl⟩ : ∃ m, k = m + 1 := ⟨k - 1, by omega⟩
    have g := hK k (by omega)
    simp only at g
    simp only [monikerref1_Done.l0, A1, if_false]
    rw [g]
    simp only [Option.bind_some]
    rw [if_pos (by omega)]
  | succ d ih =>
    intro i q beh p out h1 h2 hR hRb hql hb hsum hp hSd hk ho0
    have ho : out.length + (c * (d + 1) + c) ≤ 200000000000 := by rw [← Nat.mul_succ]; exact ho0
    clear ho0
    have hi : i < es.length := by omega
    have A1 : ((i : Int) < (es.length : Int)) = True := eq_true (by omega)
    have A2 : ((0 : Int) ≤ (i : Int)) = True := eq_true (by omega)
    have hw : wrap64 ((i : Int) + 1) = ((i + 1 : Nat) : Int) := by rw [w64] <;> omega
    rw [List.drop_eq_getElem_cons hi] at hSd ⊢
    obtain ⟨s1, s2, s3⟩ := hSd
    have hle := sd_le _ _ s3
    simp only [doneC]
    have e2 := ar_sub h2
    have e3 : 0 ≤ es[i].f1 := Int.le_trans hp (Int.le_trans s1 s2)
    have e4 : ∀ x, es[i].f1 ≤ x → p ≤ x := fun x h => Int.le_trans s1 (Int.le_trans s2 h)
    have e5 := ar_rng hp (Int.le_trans s1 s2) hle hsb
    have e6 := ar_rng (Int.le_trans hp s1) s2 hle hsb
    have hl := keptS_len p es[i].f0 l 0
    have e7 : (out ++ keptS 0 p es[i].f0 l ++ [(⟨false, 0, 0, es[i].f2⟩ : S61)]).length + c * (d + 1) ≤ 200000000000 := by
      rw [List.length_append, List.length_append, List.length_singleton]
      exact ar_len ho hl hc
    have e8 : (out ++ keptS 0 p es[i].f0 l).length < 3518437208883 := by
      rw [List.length_append]
      exact ar_lt ho hl hc
    have e9 : (out.length + (keptS 0 p es[i].f0 l).length) < 3518437208883 := ar_lt ho hl hc
    clear hl ho
    -- the inner loop, over how many runs are left
    have inner : ∀ (n : Nat) (q : List S61) (beh : Int), q.length = n → (∀ r ∈ q, Rn r) → (∀ r ∈ q, Rb r) → q.length ≤ l.length → 0 ≤ beh → beh + sum_ q = size → (∀ x y, p ≤ x → x ≤ y → keptS beh x y q = keptS 0 x y l) →
        Ev (fun k => monikerref1_Done.l1 k q es out p size beh (i : Int)) (out ++ (keptS 0 p es[i].f0 l ++ ⟨false, 0, 0, es[i].f2⟩ :: doneC l size es[i].f1 (es.drop (i + 1)))) := by
      intro n
      induction n with
      | zero =>
        intro q beh hn hR hRb hql hb hsum hk
        obtain rfl := List.eq_nil_of_length_eq_zero hn
        have hkk := kept_is [] hR hRb (by simp) beh p es[i].f0 e5 e6 hb (ar_cap hsum hsb)
        rw [hk p es[i].f0 (Int.le_refl _) s1] at hkk
        obtain ⟨K, hK⟩ := hkk
        obtain ⟨K2, hK2⟩ := ih (i + 1) [] beh es[i].f1 (out ++ keptS 0 p es[i].f0 l ++ [⟨false, 0, 0, es[i].f2⟩]) hi e2 hR hRb hql hb hsum e3 s3 (fun x y hx hy => hk x y (e4 x hx) hy) e7
        refine ⟨max K K2 + 1, fun k hk => ?_⟩
        obtain ⟨k, rfl⟩ : ∃ m, k = m + 1 := ⟨k - 1, by omega⟩
        have g := hK k (by omega)
        have g2 := hK2 k (by omega)
        simp only at g g2
        simp only [monikerref1_Done.l1, List.length_nil, A1, A2, if_true]
        rw [if_neg (by omega), rd_at es i hi, g]
        simp only [Option.bind_some]
        rw [if_pos (by omega)]
        try simp only [Option.bind_some]
        rw [if_pos e8, hw, g2]
        simp
      | succ n ihn =>
        intro q beh hn hR hRb hql hb hsum hk
        cases q with
        | nil => simp at hn
        | cons r q =>
          have hr := hR r List.mem_cons_self
          have hrb := hRb r List.mem_cons_self
          have hsz := size_run r hr hrb
          obtain ⟨z0, z1⟩ := rsz_le r hr hrb
          have hR' := fun z hz => hR z (List.mem_cons_of_mem r hz)
          have hRb' := fun z hz => hRb z (List.mem_cons_of_mem r hz)
          have hsum0 := hsum
          simp only [sum_] at hsum
          have hpos := sum_pos q hR'
          have w1 : wrap64 (beh + rsz r) = beh + rsz r := ar_wrap hb z0 hpos hsum hsb
          have B1 : (((r :: q).length : Int) > 0) = True := eq_true (by simp only [List.length_cons]; omega)
          have B2 : ((0 : Int) < ((r :: q).length : Int)) = True := eq_true (by simp only [List.length_cons]; omega)
          have B3 : ((1 : Int) ≤ ((r :: q).length : Int)) = True := eq_true (by simp only [List.length_cons]; omega)
          have hrd : rd_T61 (r :: q) 0 = r := rfl
          by_cases hc' : beh + rsz r < p
          · obtain ⟨K, hK⟩ := ihn q (beh + rsz r) (by simpa using hn) hR' hRb' (ar_cons hql) (Int.add_nonneg hb z0) ((Int.add_assoc _ _ _).trans hsum) (fun x y hx hy => by
              have := hk x y hx hy
              rw [kept_skip x y r q beh hr (Int.lt_of_lt_of_le hc' hx) hy] at this
              exact this)
            refine ⟨K + 1, fun k hk => ?_⟩
            obtain ⟨k, rfl⟩ : ∃ m, k = m + 1 := ⟨k - 1, by omega⟩
            have g := hK k (by omega)
            simp only at g
            simp only [monikerref1_Done.l1, B1, B2, B3, if_true, hrd]
            rw [hsz]
            simp only [Option.bind_some, w1]
            rw [if_pos hc']
            exact g
          · have hkk := kept_is (r :: q) hR hRb (ar_big (Nat.le_trans hql hlen0)) beh p es[i].f0 e5 e6 hb (ar_cap hsum0 hsb)
            rw [hk p es[i].f0 (Int.le_refl _) s1] at hkk
            obtain ⟨K, hK⟩ := hkk
            obtain ⟨K2, hK2⟩ := ih (i + 1) (r :: q) beh es[i].f1 (out ++ keptS 0 p es[i].f0 l ++ [⟨false, 0, 0, es[i].f2⟩]) hi e2 hR hRb hql hb hsum0 e3 s3 (fun x y hx hy => hk x y (e4 x hx) hy) e7
            refine ⟨max K K2 + 1, fun k hk => ?_⟩
            obtain ⟨k, rfl⟩ : ∃ m, k = m + 1 := ⟨k - 1, by omega⟩
            have g := hK k (by omega)
            have g2 := hK2 k (by omega)
            simp only at g g2
            simp only [monikerref1_Done.l1, B1, B2, if_true, hrd]
            rw [hsz]
            simp only [Option.bind_some, w1]
            rw [if_neg hc']
            simp only [A1, A2, if_true]
            rw [rd_at es i hi, g]
            simp only [Option.bind_some]
            rw [if_pos (by omega)]
            try simp only [Option.bind_some]
            rw [if_pos e8, hw, g2]
            simp
    obtain ⟨K, hK⟩ := inner q.length q beh rfl hR hRb hql hb hsum hk
    refine ⟨K + 1, fun k hk => ?_⟩
    obtain ⟨k, rfl⟩ : ∃ m, k = m + 1 := ⟨k - 1, by omega⟩
    simp only [monikerref1_Done.l0, A1, if_true]
    exact hK k (by omega)
theorem Done_gen (l : List S61) (es : List S42) (hR : ∀ r ∈ l, Rn r) (hRb : ∀ r ∈ l, Rb r) (hsb : sum_ l ≤ 4900000000000000000) (hlen : l.length ≤ 1000000) (hes : es.length ≤ 65536) (hSd : Sd (sum_ l) 0 es) : Ev (fun k => monikerref1_Done.f k l es) (doneC l (sum_ l) 0 es) := by
  unfold monikerref1_Done.f
  have h1 := size_loop l hR hRb (by omega) l.length 0 0 (by omega) (by omega) (by omega) (by simpa using by omega)
  have hm : (2 * l.length + 2) * (es.length + 1) ≤ 2000002 * 65537 := Nat.mul_le_mul (by omega) (by omega)
  have h2 := done_gen l (sum_ l) es hR rfl hsb hlen hes (2 * l.length + 2) (Nat.le_refl _) es.length 0 l 0 0 [] (by omega) (by omega) hR hRb (Nat.le_refl _) (by omega) (by omega) (by omega) hSd (fun x y _ _ => rfl) (by simp only [List.length_nil]; omega)
  refine Ev.bind (a := sum_ l) ?_ ?_
  · have e : (0 : Int) + sum_ (l.drop 0) = sum_ l := by simp
    rw [e] at h1
    exact h1
  · simpa using h2
end Go.Proofs.Ytaihajmdngoeiaa.Q
