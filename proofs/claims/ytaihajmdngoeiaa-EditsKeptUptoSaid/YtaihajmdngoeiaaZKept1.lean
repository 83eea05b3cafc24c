/- Texts of the proof of one law (Kept), part 1: functions printed as Lean functions with their walks, and what is proved of them. Conditions: those of each theorem. -/
import Derived.Test.YtaihajmdngoeiaaZKept0
-- A text of this session's own program (wip/myprint.sh over a changed print tool): functions and their walks
namespace Go.Proofs.Ytaihajmdngoeiaa.F
open Go.RowKit Go.Proofs.YtaihajmdngoeiaaW.PrintWords Go.Proofs.YtaihajmdngoeiaaW.PrintLast Go.Proofs.YtaihajmdngoeiaaW.PrintMore
attribute [local go_sem] max2_int min2_int max_two min_two max_three min_three max_four min_four   -- for this text's walks alone
set_option linter.unusedVariables false
set_option linter.unusedSimpArgs false

/-! ### monikerref1_Done: function 36 -/
mutual
def monikerref1_Done.l0 : Nat → List (S61) → List (S42) → List (S61) → Int → Int → Int → Int → Option ((List (S61)))
  | 0, _, _, _, _, _, _, _ => none
  | k + 1, x0, x1, x5, x6, x7, x8, x9 => if x9 < (x1.length : Int) then (monikerref1_Done.l1 k x0 x1 x5 x6 x7 x8 x9) else ((monikerref1_kept.f k x0 x8 x6 x7).bind fun t185 => (if x5.length + t185.length < 3518437208883 then (some (x5 ++ t185)) else (none)))
def monikerref1_Done.l1 : Nat → List (S61) → List (S42) → List (S61) → Int → Int → Int → Int → Option ((List (S61)))
  | 0, _, _, _, _, _, _, _ => none
  | k + 1, x0, x1, x5, x6, x7, x8, x9 => if (x0.length : Int) > 0 then (if 0 < (x0.length : Int) then ((monikerref1_Run_size.f ((rd_T61 x0 0).f0) ((rd_T61 x0 0).f1) ((rd_T61 x0 0).f2) ((rd_T61 x0 0).f3)).bind fun t192 => (if (wrap64 (x8 + t192)) < x6 then ((monikerref1_Run_size.f ((rd_T61 x0 0).f0) ((rd_T61 x0 0).f1) ((rd_T61 x0 0).f2) ((rd_T61 x0 0).f3)).bind fun t194 => (if 1 ≤ (x0.length : Int) then (monikerref1_Done.l1 k (x0.drop 1) x1 x5 x6 x7 (wrap64 (x8 + t194)) x9) else (none))) else (if 0 ≤ x9 then (if x9 < (x1.length : Int) then ((monikerref1_kept.f k x0 x8 x6 ((rd_T42 x1 x9).f0)).bind fun t201 => (if x5.length + t201.length < 3518437208883 then ((some (x5 ++ t201 : List (S61))).bind fun y204 => (if y204.length < 3518437208883 then (monikerref1_Done.l0 k x0 x1 (y204 ++ [(⟨false, 0, 0, (rd_T42 x1 x9).f2⟩ : S61)]) ((rd_T42 x1 x9).f1) x7 x8 (wrap64 (x9 + 1))) else (none))) else (none))) else (none)) else (none)))) else (none)) else (if 0 ≤ x9 then (if x9 < (x1.length : Int) then ((monikerref1_kept.f k x0 x8 x6 ((rd_T42 x1 x9).f0)).bind fun t213 => (if x5.length + t213.length < 3518437208883 then ((some (x5 ++ t213 : List (S61))).bind fun y216 => (if y216.length < 3518437208883 then (monikerref1_Done.l0 k x0 x1 (y216 ++ [(⟨false, 0, 0, (rd_T42 x1 x9).f2⟩ : S61)]) ((rd_T42 x1 x9).f1) x7 x8 (wrap64 (x9 + 1))) else (none))) else (none))) else (none)) else (none))
end
def monikerref1_Done.f (k : Nat) (l0 : List (S61)) (l1 : List (S42)) : Option ((List (S61))) := (monikerref1_Size.f k l0).bind fun t184 => (monikerref1_Done.l0 k l0 l1 ([] : List (S61)) 0 t184 0 0)
theorem monikerref1_Done.mono_l : ∀ k, (∀ y0 y1 y2 y3 y4 y5 y6, LeO (monikerref1_Done.l0 k y0 y1 y2 y3 y4 y5 y6) (monikerref1_Done.l0 (k + 1) y0 y1 y2 y3 y4 y5 y6)) ∧ (∀ y0 y1 y2 y3 y4 y5 y6, LeO (monikerref1_Done.l1 k y0 y1 y2 y3 y4 y5 y6) (monikerref1_Done.l1 (k + 1) y0 y1 y2 y3 y4 y5 y6))
  | 0 => ⟨fun _ _ _ _ _ _ _ r h => by simp [monikerref1_Done.l0] at h, fun _ _ _ _ _ _ _ r h => by simp [monikerref1_Done.l1] at h⟩
  | k + 1 => by
    obtain ⟨ih0, ih1⟩ := monikerref1_Done.mono_l k
    refine ⟨?_, ?_⟩
    · intro y0 y1 y2 y3 y4 y5 y6
      unfold monikerref1_Done.l0
      repeat' first
      | (with_reducible exact ih0 _ _ _ _ _ _ _)
      | (with_reducible exact ih1 _ _ _ _ _ _ _)
      | (with_reducible exact monikerref1_Size.mono _ _)
      | (with_reducible exact monikerref1_kept.mono _ _ _ _ _)
      | (with_reducible exact LeO.refl _)
      | (with_reducible exact LeO.none _)
      | (with_reducible refine LeO.ite ?_ ?_)
      | (with_reducible refine LeO.bind ?_ (fun _ => ?_))
      | exact ih0 _ _ _ _ _ _ _
      | exact ih1 _ _ _ _ _ _ _
      | exact monikerref1_Size.mono _ _
      | exact monikerref1_kept.mono _ _ _ _ _
      | exact LeO.none _
      | refine LeO.ite ?_ ?_
      | refine LeO.bind ?_ (fun _ => ?_)
    · intro y0 y1 y2 y3 y4 y5 y6
      unfold monikerref1_Done.l1
      repeat' first
      | (with_reducible exact ih0 _ _ _ _ _ _ _)
      | (with_reducible exact ih1 _ _ _ _ _ _ _)
      | (with_reducible exact monikerref1_Size.mono _ _)
      | (with_reducible exact monikerref1_kept.mono _ _ _ _ _)
      | (with_reducible exact LeO.refl _)
      | (with_reducible exact LeO.none _)
      | (with_reducible refine LeO.ite ?_ ?_)
      | (with_reducible refine LeO.bind ?_ (fun _ => ?_))
      | exact ih0 _ _ _ _ _ _ _
      | exact ih1 _ _ _ _ _ _ _
      | exact monikerref1_Size.mono _ _
      | exact monikerref1_kept.mono _ _ _ _ _
      | exact LeO.none _
      | refine LeO.ite ?_ ?_
      | refine LeO.bind ?_ (fun _ => ?_)
theorem monikerref1_Done.mono : ∀ a0 a1 k, LeO (monikerref1_Done.f k a0 a1) (monikerref1_Done.f (k + 1) a0 a1) := by
  intro a0 a1 k
  obtain ⟨ih0, ih1⟩ := monikerref1_Done.mono_l k
  unfold monikerref1_Done.f
  repeat' first
      | (with_reducible exact ih0 _ _ _ _ _ _ _)
      | (with_reducible exact ih1 _ _ _ _ _ _ _)
      | (with_reducible exact monikerref1_Size.mono _ _)
      | (with_reducible exact monikerref1_kept.mono _ _ _ _ _)
      | (with_reducible exact LeO.refl _)
      | (with_reducible exact LeO.none _)
      | (with_reducible refine LeO.ite ?_ ?_)
      | (with_reducible refine LeO.bind ?_ (fun _ => ?_))
      | exact ih0 _ _ _ _ _ _ _
      | exact ih1 _ _ _ _ _ _ _
      | exact monikerref1_Size.mono _ _
      | exact monikerref1_kept.mono _ _ _ _ _
      | exact LeO.none _
      | refine LeO.ite ?_ ?_
      | refine LeO.bind ?_ (fun _ => ?_)
set_option maxHeartbeats 8000000 in
set_option maxRecDepth 100000 in
theorem monikerref1_Done.calls (k : Nat) (P0_ : Nat → Prop) (A0 : Option Addr) (c0 : Nat) (l0 : List (S61)) (A1 : Option Addr) (c1 : Nat) (l1 : List (S42)) (r : List (S61)) (w : World) (hs0 : Kd.V k61 61 w w.heap.size (fun k_ => P0_ k_) (.slice A0 l0.length c0) l0) (hr1 : Kd.C k42 w A1 l1.length l1) (hc1 : l1.length ≤ c1) (h : monikerref1_Done.f k l0 l1 = some r) :
    Calls Try.prog 36 #[.slice A0 l0.length c0, .slice A1 l1.length c1] w fun e w' => ∃ v0_ : Value, e = .returned (v0_) ∧ Kd.R k61 61 w' w.heap.size (fun k_ => (w.heap.size ≤ k_)) v0_ r ∧ Below w.heap.size w w' := by
  have hu61 := Try.underlying61
  have HO0 := Aside0.mk (show Kd.V k61 61 w w.heap.size (fun k_ => (P0_ k_ ∨ w.heap.size ≤ k_)) (.slice A0 l0.length c0) l0 from Kd.V_mono hs0 (fun k_ hk => .inl hk))
  have HR1 := Aside0.mk hr1
  have HC1 := Aside0.mk hc1
  clear hr1 hc1
  have HB := Aside0.mk (Below.refl w.heap.size w)
  have H : ((monikerref1_Size.f k l0).bind fun t184 => (monikerref1_Done.l0 k l0 l1 ([] : List (S61)) 0 t184 0 0)) = some r := h
  clear h
  replace H := Option.bind_eq_some_iff.mp H
  obtain ⟨t184, A30, H⟩ := H
  replace H : (monikerref1_Done.l0 k l0 l1 ([] : List (S61)) 0 t184 0 0) = some r := H
  have A3 := Aside0.mk A30
  clear A30
  have H' := Aside0.mk H
  clear H
  go_enter Try.func36, Try.ntmps36
  go_wp2_with (first | ((with_reducible refine gate_callee (f := 44) rfl ?_); refine goesL_ (some 11) rfl rfl Try.func44 (by kernel_rfl) rfl #[.slice A0 l0.length c0] rfl (by (try simp only [List.map_toArray, List.map_cons, List.map_nil]); first | done | rfl | (simp only [List.length_drop, List.length_take]; rfl)) ?_; (with_reducible refine (monikerref1_Size.calls k _ _ l0 t184 _ ?side1 ?side2 A3.out).mono ?_); (case side1 => repeat (first | exact (Kd.V_reads' HO0.out).2.2 | (with_reducible refine Kd.C_alloc ?_ _) | (with_reducible refine Kd.C_drewN ?_ _) | (with_reducible refine Kd.C_drew ?_))); (case side2 => exact (Kd.V_reads' HO0.out).2.1); rintro e w4 ⟨rfl, hb⟩; refine ⟨_, rfl, ?_⟩; have n0_ := Aside0.mk (Kd.V_below (by (with_reducible repeat (first | apply Kd.V_alloc | apply Kd.V_drewN | apply Kd.V_drew)); exact HO0.out) hb); have n1_ := Aside0.mk (below_step (by repeat (first | (with_reducible first | exact HB.out | apply below_alloc | apply pw_below_drewN | apply below_drew1) | exact HB.out)) hb); clear HO0; clear HB; have HO0 := n0_; have HB := n1_; clear n0_ n1_; (try clear hb); (try clear hb2); (try clear hk); (try clear hi)))
  go_loopg [0, 5, 6, 8, 9] k (fun kq v0 v5 v6 v8 v9 w' => ∃ (x0_1 : List (S61)) (x5_1 : List (S61)) (x6_1 : Int) (x8_1 : Int) (x9_1 : Int), v6 = .int .i64 x6_1 ∧ v8 = .int .i64 x8_1 ∧ v9 = .int .i64 x9_1 ∧ Aside0 (monikerref1_Done.l0 kq x0_1 l1 x5_1 x6_1 t184 x8_1 x9_1 = some r) ∧ Aside0 (kq ≤ k) ∧ Aside0 (Kd.V k61 61 w' w.heap.size (fun k_ => (P0_ k_ ∨ w.heap.size ≤ k_) ∧ some k_ ≠ (v5 : Value).ownBlock) v0 x0_1) ∧ Aside0 (Kd.R k61 61 w' w.heap.size (fun k_ => (w.heap.size ≤ k_)) v5 x5_1) ∧ Aside0 (Below w.heap.size w w'))
  case atStart => exact ⟨(l0), (([] : List (S61))), (0), (0), (0), (by first | rfl | (simp; done) | (simp [*]; done)), (by first | rfl | (simp; done) | (simp [*]; done)), (by first | rfl | (simp; done) | (simp [*]; done)), H', ⟨Nat.le_refl _⟩, ⟨by (with_reducible repeat (first | apply Kd.V_alloc | apply Kd.V_drewN | apply Kd.V_drew)); exact Kd.V_mono HO0.out (fun _ hk => ⟨hk, (by simp [Value.ownBlock])⟩)⟩, ⟨by first | exact Kd.R_nil _ _ _ _ _ | exact Kd.N_nil _ _ _ _ _ | exact Kd.V_nil _ _ _ _ _ | exact Kd.Q_nil _ _ _ _ _ | exact Kd.S_nil _ _ _ _ _⟩, ⟨by repeat (first | (with_reducible first | exact HB.out | apply below_alloc | apply pw_below_drewN | apply below_drew1) | exact HB.out)⟩⟩
  case round =>
    clear H'
    try clear c1
    try clear p2
    try clear c3
    try clear c4
    obtain ⟨x0_1, x5_1, x6_1, x8_1, x9_1, rfl, rfl, rfl, HA, HK1, HO_0, HO_5, HB⟩ := hrel
    cases gk with
    | zero => exact absurd HA.out (by simp [monikerref1_Done.l0])
    | succ k1 =>
      have H := HA.out
      clear HA
      simp only [monikerref1_Done.l0] at H
      by_cases c5 : x9_1 < (l1.length : Int)
      · rw [if_pos c5] at H
        have c5b0 : decide (x9_1 < (l1.length : Int)) = true := decide_eq_true c5
        clear c5
        have H' := Aside0.mk H
        clear H
        go_wp2
        go_loopg [0, 8] k1 (fun kq v0 v8 w' => ∃ (x0_2 : List (S61)) (x8_2 : Int), v8 = .int .i64 x8_2 ∧ Aside0 (monikerref1_Done.l1 kq x0_2 l1 x5_1 x6_1 t184 x8_2 x9_1 = some r) ∧ Aside0 (kq ≤ k1) ∧ Aside0 (Kd.V k61 61 w' w.heap.size (fun k_ => (P0_ k_ ∨ w.heap.size ≤ k_) ∧ some k_ ≠ (u5 : Value).ownBlock) v0 x0_2) ∧ Aside0 (Kd.R k61 61 w' w.heap.size (fun k_ => (w.heap.size ≤ k_)) u5 x5_1) ∧ Aside0 (Below w.heap.size w w'))
        case atStart => exact ⟨(x0_1), (x8_1), (by first | rfl | (simp; done) | (simp [*]; done)), H', ⟨Nat.le_refl _⟩, ⟨by (with_reducible repeat (first | apply Kd.V_alloc | apply Kd.V_drewN | apply Kd.V_drew)); exact HO_0.out⟩, ⟨by (with_reducible repeat (first | apply Kd.R_alloc | apply Kd.R_drewN | apply Kd.R_drew)); exact HO_5.out⟩, ⟨by repeat (first | (with_reducible first | exact HB.out | apply below_alloc | apply pw_below_drewN | apply below_drew1) | exact HB.out)⟩⟩
        case round =>
          clear H'
          try clear c1
          try clear p2
          try clear c3
          try clear c4
          try clear c5
          try clear c5b0
          try clear p2
          obtain ⟨x0_2, x8_2, rfl, HA, HK2, HO_0, HO_5, HB⟩ := hrel
          cases gk with
          | zero => exact absurd HA.out (by simp [monikerref1_Done.l1])
          | succ k2 =>
            have H := HA.out
            clear HA
            simp only [monikerref1_Done.l1] at H
            by_cases c6 : (x0_2.length : Int) > 0
            · rw [if_pos c6] at H
              have c6b0 : decide (0 < (x0_2.length : Int)) = true := decide_eq_true c6
              have c6b1 : decide (0 < x0_2.length) = true := decide_eq_true (by omega)
              clear c6
              by_cases c7 : 0 < (x0_2.length : Int)
              · rw [if_pos c7] at H
                have c7b0 : decide (0 < (x0_2.length : Int)) = true := decide_eq_true c7
                have c7b1 : decide (0 < x0_2.length) = true := decide_eq_true (by omega)
                clear c7
                replace H := Option.bind_eq_some_iff.mp H
                obtain ⟨t192, A80, H⟩ := H
                replace H : (if (wrap64 (x8_2 + t192)) < x6_1 then ((monikerref1_Run_size.f ((rd_T61 x0_2 0).f0) ((rd_T61 x0_2 0).f1) ((rd_T61 x0_2 0).f2) ((rd_T61 x0_2 0).f3)).bind fun t194 => (if 1 ≤ (x0_2.length : Int) then (monikerref1_Done.l1 k2 (x0_2.drop 1) l1 x5_1 x6_1 t184 (wrap64 (x8_2 + t194)) x9_1) else (none))) else (if 0 ≤ x9_1 then (if x9_1 < (l1.length : Int) then ((monikerref1_kept.f k2 x0_2 x8_2 x6_1 ((rd_T42 l1 x9_1).f0)).bind fun t201 => (if x5_1.length + t201.length < 3518437208883 then ((some (x5_1 ++ t201 : List (S61))).bind fun y204 => (if y204.length < 3518437208883 then (monikerref1_Done.l0 k2 x0_2 l1 (y204 ++ [(⟨false, 0, 0, (rd_T42 l1 x9_1).f2⟩ : S61)]) ((rd_T42 l1 x9_1).f1) t184 x8_2 (wrap64 (x9_1 + 1))) else (none))) else (none))) else (none)) else (none))) = some r := H
                have A8 := Aside0.mk A80
                clear A80
                by_cases c9 : (wrap64 (x8_2 + t192)) < x6_1
                · rw [if_pos c9] at H
                  have c9b0 : decide ((wrap64 (x8_2 + t192)) < x6_1) = true := decide_eq_true c9
                  clear c9
                  replace H := Option.bind_eq_some_iff.mp H
                  obtain ⟨t194, A100, H⟩ := H
                  replace H : (if 1 ≤ (x0_2.length : Int) then (monikerref1_Done.l1 k2 (x0_2.drop 1) l1 x5_1 x6_1 t184 (wrap64 (x8_2 + t194)) x9_1) else (none)) = some r := H
                  have A10 := Aside0.mk A100
                  clear A100
                  by_cases c11 : 1 ≤ (x0_2.length : Int)
                  · rw [if_pos c11] at H
                    have c11b0 := eq_true c11
                    have c11b1 : decide (1 ≤ (x0_2.length : Int)) = true := decide_eq_true c11
                    clear c11
                    obtain ⟨y195, hy195⟩ : ∃ y_ : List (S61), y_ = (x0_2.drop 1) := ⟨_, rfl⟩
                    replace H : (monikerref1_Done.l1 k2 y195 l1 x5_1 x6_1 t184 (wrap64 (x8_2 + t194)) x9_1) = some r := by first | (rw [hy195]; with_reducible exact H) | (have H2_ := (Option.bind_some _ _).symm.trans H; rw [hy195]; with_reducible exact H2_) | (have H2_ := (Option.bind_some _ _).symm.trans H; with_reducible exact H2_) | with_reducible exact H | (rw [hy195]; exact H) | exact H
                    have Ny195 := Aside0.mk hy195
                    clear hy195
                    have H' := Aside0.mk H
                    clear H
                    obtain ⟨Ao12, co12, eo12⟩ := Kd.V_slice HO_0.out
                    subst eo12
                    have p191 : 0 ≤ (0 : Int) := (by omega)
                    have q191 : 0 < (x0_2.length : Int) := of_decide_eq_true (by first | (with_reducible assumption) | assumption)
                    obtain ⟨ad191, e191, hx191_0, hx191_1, hx191_2, hx191_3⟩ := at_T61 (Kd.V_reads' HO_0.out).2.2 0 p191 q191
                    cases e191
                    have qi191 : (0 < x0_2.length) = True := eq_true (by omega)
                    (try rw [show ((0 : Int)).toNat = 0 from rfl] at hx191_0)
                    (try rw [show 0 * 4 = 0 from rfl] at hx191_0)
                    (try rw [Addr.add_zero'] at hx191_0)
                    (try rw [show ((0 : Int)).toNat = 0 from rfl] at hx191_1)
                    (try rw [show 0 * 4 = 0 from rfl] at hx191_1)
                    (try rw [Addr.add_zero'] at hx191_1)
                    (try rw [show ((0 : Int)).toNat = 0 from rfl] at hx191_2)
                    (try rw [show 0 * 4 = 0 from rfl] at hx191_2)
                    (try rw [Addr.add_zero'] at hx191_2)
                    (try rw [show ((0 : Int)).toNat = 0 from rfl] at hx191_3)
                    (try rw [show 0 * 4 = 0 from rfl] at hx191_3)
                    (try rw [Addr.add_zero'] at hx191_3)
                    replace p191 := eq_true p191
                    replace q191 := eq_true q191
                    go_wp2_with (first | (go_at_call 45; (with_reducible refine (monikerref1_Run_size.calls ((rd_T61 x0_2 0).f0) ((rd_T61 x0_2 0).f1) ((rd_T61 x0_2 0).f2) ((rd_T61 x0_2 0).f3) t192 _ A8.out).mono ?_); rintro e w13 ⟨rfl, hb⟩; have n0_ := Aside0.mk (Kd.V_below (by (with_reducible repeat (first | apply Kd.V_alloc | apply Kd.V_drewN | apply Kd.V_drew)); exact HO_0.out) hb); have n1_ := Aside0.mk (Kd.R_below (by (with_reducible repeat (first | apply Kd.R_alloc | apply Kd.R_drewN | apply Kd.R_drew)); exact HO_5.out) hb); have n2_ := Aside0.mk (below_step (by repeat (first | (with_reducible first | exact HB.out | apply below_alloc | apply pw_below_drewN | apply below_drew1) | exact HB.out)) hb); clear HO_0; clear HO_5; clear HB; have HO_0 := n0_; have HO_5 := n1_; have HB := n2_; clear n0_ n1_ n2_; (try clear hb); (try clear hb2); (try clear hk); (try clear hi); have p193 : 0 ≤ (0 : Int) := (by omega); have q193 : 0 < (x0_2.length : Int) := of_decide_eq_true (by first | (with_reducible assumption) | assumption); obtain ⟨ad193, e193, hx193_0, hx193_1, hx193_2, hx193_3⟩ := at_T61 (Kd.V_reads' HO_0.out).2.2 0 p193 q193; obtain rfl : ad191 = ad193 := (by injection e193); have qi193 : (0 < x0_2.length) = True := eq_true (by omega); (try rw [show ((0 : Int)).toNat = 0 from rfl] at hx193_0); (try rw [show 0 * 4 = 0 from rfl] at hx193_0); (try rw [Addr.add_zero'] at hx193_0); (try rw [show ((0 : Int)).toNat = 0 from rfl] at hx193_1); (try rw [show 0 * 4 = 0 from rfl] at hx193_1); (try rw [Addr.add_zero'] at hx193_1); (try rw [show ((0 : Int)).toNat = 0 from rfl] at hx193_2); (try rw [show 0 * 4 = 0 from rfl] at hx193_2); (try rw [Addr.add_zero'] at hx193_2); (try rw [show ((0 : Int)).toNat = 0 from rfl] at hx193_3); (try rw [show 0 * 4 = 0 from rfl] at hx193_3); (try rw [Addr.add_zero'] at hx193_3); replace p193 := eq_true p193; replace q193 := eq_true q193) | ((with_reducible refine gate_callee (f := 45) rfl ?_); refine goesL_ (some 35) rfl rfl Try.func45 (by kernel_rfl) rfl #[.agg #[.bool ((rd_T61 x0_2 0).f0), .int .i64 ((rd_T61 x0_2 0).f1), .int .i64 ((rd_T61 x0_2 0).f2), .string ((rd_T61 x0_2 0).f3)]] rfl (by (try simp only [List.map_toArray, List.map_cons, List.map_nil]); first | done | rfl | (simp only [List.length_drop, List.length_take]; rfl)) ?_; (with_reducible refine (monikerref1_Run_size.calls ((rd_T61 x0_2 0).f0) ((rd_T61 x0_2 0).f1) ((rd_T61 x0_2 0).f2) ((rd_T61 x0_2 0).f3) t194 _ A10.out).mono ?_); rintro e w14 ⟨rfl, hb⟩; refine ⟨_, rfl, ?_⟩; have n0_ := Aside0.mk (Kd.V_below (by (with_reducible repeat (first | apply Kd.V_alloc | apply Kd.V_drewN | apply Kd.V_drew)); exact HO_0.out) hb); have n1_ := Aside0.mk (Kd.R_below (by (with_reducible repeat (first | apply Kd.R_alloc | apply Kd.R_drewN | apply Kd.R_drew)); exact HO_5.out) hb); have n2_ := Aside0.mk (below_step (by repeat (first | (with_reducible first | exact HB.out | apply below_alloc | apply pw_below_drewN | apply below_drew1) | exact HB.out)) hb); clear HO_0; clear HO_5; clear HB; have HO_0 := n0_; have HO_5 := n1_; have HB := n2_; clear n0_ n1_ n2_; (try clear hb); (try clear hb2); (try clear hk); (try clear hi); have q15 : (1 : Int) ≤ ((x0_2.length : Int) : Int) := of_decide_eq_true (by first | (with_reducible assumption) | assumption); obtain ⟨i015, hi015, _, hsz15, _⟩ := info_parts info61; have hroom15 : x0_2.length ≤ co12 := (Kd.V_reads' HO_0.out).2.1; have hC15 : Kd.F k61 _ _ (some ad191) x0_2.length x0_2 := (Kd.V_at (base := w.heap.size) HO_0.out).2.2; have hcut15 := cut_from (P := Try.prog) 50 61 .i64 Try.underlying50 hi015 4 hsz15 (some ad191) x0_2.length co12 1 (by omega) q15; have hr15 := Kd.F_cut (m := (1 : Int).toNat) (c := co12) hC15 (by omega) hroom15; obtain ⟨A15, hA15⟩ : ∃ A_, A_ = (if co12 = (1 : Int).toNat then (some ad191) else ((some ad191) : Option Addr).map (·.add ((1 : Int).toNat * 4))) := ⟨_, rfl⟩; obtain ⟨c15, hc15⟩ : ∃ c_, c_ = co12 - (1 : Int).toNat := ⟨_, rfl⟩; have hy15 : y195.length = x0_2.length - (1 : Int).toNat := (by rw [Ny195.out, List.length_drop] <;> omega); rw [show (x0_2).drop (1 : Int).toNat = y195 from Ny195.out.symm] at hr15; replace hr15 : Kd.F k61 _ _ A15 y195.length y195 := (by rw [hA15]; exact hr15); rw [← hy15, ← hA15, ← hc15] at hcut15; have HO199 := Aside0.mk (show Kd.V k61 61 _ w.heap.size _ (.slice A15 y195.length c15) y195 from Kd.V_mk (by rw [hy15, hc15]; exact Nat.sub_le_sub_right hroom15 _) hr15); have HC199 := Aside0.mk (show y195.length ≤ c15 from by rw [hy15, hc15]; exact Nat.sub_le_sub_right hroom15 _); clear hr15 hC15 hroom15 hi015 hsz15 hc15; have KY15 := Aside0.mk hy15; have KA15 := Aside0.mk hA15; clear hy15 hA15; replace q15 := eq_true q15))
                    go_roundg k2
                    case measure => have := HK1.out; have := HK2.out; omega
                    case rel => exact ⟨(y195), (wrap64 (x8_2 + t194)), (by first | rfl | (simp; done) | (simp [*]; done)), H', ⟨by have := HK1.out; have := HK2.out; omega⟩, ⟨by (with_reducible repeat (first | apply Kd.V_alloc | apply Kd.V_drewN | apply Kd.V_drew)); exact HO199.out⟩, ⟨by (with_reducible repeat (first | apply Kd.R_alloc | apply Kd.R_drewN | apply Kd.R_drew)); exact HO_5.out⟩, ⟨by repeat (first | (with_reducible first | exact HB.out | apply below_alloc | apply pw_below_drewN | apply below_drew1) | exact HB.out)⟩⟩
                  · rw [if_neg c11] at H
                    exact absurd H (by simp)
                · rw [if_neg c9] at H
                  have c9b0 : decide ((wrap64 (x8_2 + t192)) < x6_1) = false := decide_eq_false c9
                  clear c9
                  by_cases c16 : 0 ≤ x9_1
                  · rw [if_pos c16] at H
                    have c16b0 : decide (0 ≤ x9_1) = true := decide_eq_true c16
                    clear c16
                    by_cases c17 : x9_1 < (l1.length : Int)
                    · rw [if_pos c17] at H
                      have c17b0 : decide (x9_1 < (l1.length : Int)) = true := decide_eq_true c17
                      clear c17
                      replace H := Option.bind_eq_some_iff.mp H
                      obtain ⟨t201, A180, H⟩ := H
                      replace H : (if x5_1.length + t201.length < 3518437208883 then ((some (x5_1 ++ t201 : List (S61))).bind fun y204 => (if y204.length < 3518437208883 then (monikerref1_Done.l0 k2 x0_2 l1 (y204 ++ [(⟨false, 0, 0, (rd_T42 l1 x9_1).f2⟩ : S61)]) ((rd_T42 l1 x9_1).f1) t184 x8_2 (wrap64 (x9_1 + 1))) else (none))) else (none)) = some r := H
                      have A18 := Aside0.mk A180
                      clear A180
                      by_cases c19 : x5_1.length + t201.length < 3518437208883
                      · rw [if_pos c19] at H
                        have LMc19 := Aside0.mk c19
                        clear c19
                        obtain ⟨y204, hy204⟩ : ∃ y_ : List (S61), y_ = (x5_1 ++ t201) := ⟨_, rfl⟩
                        replace H : (if y204.length < 3518437208883 then (monikerref1_Done.l0 k2 x0_2 l1 (y204 ++ [(⟨false, 0, 0, (rd_T42 l1 x9_1).f2⟩ : S61)]) ((rd_T42 l1 x9_1).f1) t184 x8_2 (wrap64 (x9_1 + 1))) else (none)) = some r := by first | (rw [hy204]; with_reducible exact H) | (have H2_ := (Option.bind_some _ _).symm.trans H; rw [hy204]; with_reducible exact H2_) | (have H2_ := (Option.bind_some _ _).symm.trans H; with_reducible exact H2_) | with_reducible exact H | (rw [hy204]; exact H) | exact H
                        have Ny204 := Aside0.mk hy204
                        clear hy204
                        by_cases c20 : y204.length < 3518437208883
                        · rw [if_pos c20] at H
                          have LMc20 := Aside0.mk c20
                          clear c20
                          obtain ⟨y208, hy208⟩ : ∃ y_ : List (S61), y_ = (y204 ++ [(⟨false, 0, 0, (rd_T42 l1 x9_1).f2⟩ : S61)]) := ⟨_, rfl⟩
                          replace H : (monikerref1_Done.l0 k2 x0_2 l1 y208 ((rd_T42 l1 x9_1).f1) t184 x8_2 (wrap64 (x9_1 + 1))) = some r := by first | (rw [hy208]; with_reducible exact H) | (have H2_ := (Option.bind_some _ _).symm.trans H; rw [hy208]; with_reducible exact H2_) | (have H2_ := (Option.bind_some _ _).symm.trans H; with_reducible exact H2_) | with_reducible exact H | (rw [hy208]; exact H) | exact H
                          have Ny208 := Aside0.mk hy208
                          clear hy208
                          have H' := Aside0.mk H
                          clear H
                          obtain ⟨Ao21, co21, eo21⟩ := Kd.V_slice HO_0.out
                          subst eo21
                          have p191 : 0 ≤ (0 : Int) := (by omega)
                          have q191 : 0 < (x0_2.length : Int) := of_decide_eq_true (by first | (with_reducible assumption) | assumption)
                          obtain ⟨ad191, e191, hx191_0, hx191_1, hx191_2, hx191_3⟩ := at_T61 (Kd.V_reads' HO_0.out).2.2 0 p191 q191
                          cases e191
                          have qi191 : (0 < x0_2.length) = True := eq_true (by omega)
                          (try rw [show ((0 : Int)).toNat = 0 from rfl] at hx191_0)
                          (try rw [show 0 * 4 = 0 from rfl] at hx191_0)
                          (try rw [Addr.add_zero'] at hx191_0)
                          (try rw [show ((0 : Int)).toNat = 0 from rfl] at hx191_1)
                          (try rw [show 0 * 4 = 0 from rfl] at hx191_1)
                          (try rw [Addr.add_zero'] at hx191_1)
                          (try rw [show ((0 : Int)).toNat = 0 from rfl] at hx191_2)
                          (try rw [show 0 * 4 = 0 from rfl] at hx191_2)
                          (try rw [Addr.add_zero'] at hx191_2)
                          (try rw [show ((0 : Int)).toNat = 0 from rfl] at hx191_3)
                          (try rw [show 0 * 4 = 0 from rfl] at hx191_3)
                          (try rw [Addr.add_zero'] at hx191_3)
                          replace p191 := eq_true p191
                          replace q191 := eq_true q191
                          go_wp2_with (first | (go_at_call 45; (with_reducible refine (monikerref1_Run_size.calls ((rd_T61 x0_2 0).f0) ((rd_T61 x0_2 0).f1) ((rd_T61 x0_2 0).f2) ((rd_T61 x0_2 0).f3) t192 _ A8.out).mono ?_); rintro e w22 ⟨rfl, hb⟩; have n0_ := Aside0.mk (Kd.V_below (by (with_reducible repeat (first | apply Kd.V_alloc | apply Kd.V_drewN | apply Kd.V_drew)); exact HO_0.out) hb); have n1_ := Aside0.mk (Kd.R_below (by (with_reducible repeat (first | apply Kd.R_alloc | apply Kd.R_drewN | apply Kd.R_drew)); exact HO_5.out) hb); have n2_ := Aside0.mk (below_step (by repeat (first | (with_reducible first | exact HB.out | apply below_alloc | apply pw_below_drewN | apply below_drew1) | exact HB.out)) hb); clear HO_0; clear HO_5; clear HB; have HO_0 := n0_; have HO_5 := n1_; have HB := n2_; clear n0_ n1_ n2_; (try clear hb); (try clear hb2); (try clear hk); (try clear hi); have p200 : 0 ≤ (x9_1 : Int) := of_decide_eq_true (by first | (with_reducible assumption) | assumption); have q200 : x9_1 < (l1.length : Int) := of_decide_eq_true (by first | (with_reducible assumption) | assumption); obtain ⟨ad200, e200, hx200_0, hx200_1, hx200_2⟩ := at_T42 HR1.out x9_1 p200 q200; cases e200; replace hx200_0 := (HB.out.cell (World.block_lt_of_cell? w _ hx200_0)).trans hx200_0; replace hx200_1 := (HB.out.cell (World.block_lt_of_cell? w _ hx200_1)).trans hx200_1; replace hx200_2 := (HB.out.cell (World.block_lt_of_cell? w _ hx200_2)).trans hx200_2; replace p200 := eq_true p200; replace q200 := eq_true q200) | ((with_reducible refine gate_callee (f := 46) rfl ?_); refine goesL_ (some 48) rfl rfl Try.func46 (by kernel_rfl) rfl #[.slice (some ad191) x0_2.length co21, .int .i64 x8_2, .int .i64 x6_1, .int .i64 ((rd_T42 l1 x9_1).f0)] rfl (by (try simp only [List.map_toArray, List.map_cons, List.map_nil]); first | done | rfl | (simp only [List.length_drop, List.length_take]; rfl)) ?_; (with_reducible refine (monikerref1_kept.calls k2 _ _ x0_2 x8_2 x6_1 ((rd_T42 l1 x9_1).f0) t201 _ ?side1 ?side2 A18.out).mono ?_); (case side1 => repeat (first | exact (Kd.V_reads' HO_0.out).2.2 | (with_reducible refine Kd.C_alloc ?_ _) | (with_reducible refine Kd.C_drewN ?_ _) | (with_reducible refine Kd.C_drew ?_))); (case side2 => exact (Kd.V_reads' HO_0.out).2.1); rintro e w23 ⟨v202, rfl, ho0, hb⟩; refine ⟨_, rfl, ?_⟩; have n0_ := Aside0.mk (Kd.V_elder' (by (with_reducible repeat (first | apply Kd.V_alloc | apply Kd.V_drewN | apply Kd.V_drew)); exact HO_0.out) (Kd.R_base ho0) hb); have n1_ := Aside0.mk (Kd.R_elder' (by (with_reducible repeat (first | apply Kd.R_alloc | apply Kd.R_drewN | apply Kd.R_drew)); exact HO_5.out) (Kd.R_base ho0) hb); have n2_ := Aside0.mk (Kd.R_lower (Kd.R_new' (Kd.R_newM (M := fun k_ => (w.heap.size ≤ k_)) ho0 (below_size (by repeat (first | (with_reducible first | exact HB.out | apply below_alloc | apply pw_below_drewN | apply below_drew1) | exact HB.out))) (fun k_ h_ => h_)) (Kd.R_lt (by (with_reducible repeat (first | apply Kd.R_alloc | apply Kd.R_drewN | apply Kd.R_drew)); exact HO_5.out))) (below_size (by repeat (first | (with_reducible first | exact HB.out | apply below_alloc | apply pw_below_drewN | apply below_drew1) | exact HB.out)))); have n3_ := Aside0.mk (below_step (by repeat (first | (with_reducible first | exact HB.out | apply below_alloc | apply pw_below_drewN | apply below_drew1) | exact HB.out)) hb); clear HO_0; clear HO_5; clear HB; have HO_0 := n0_; have HO_5 := n1_; have HO203 := n2_; have HB := n3_; clear n0_ n1_ n2_ n3_; (try clear hb); (try clear hb2); (try clear hk); (try clear hi); (try clear ho0); obtain ⟨Ao25, co25, eo25⟩ := Kd.R_slice HO203.out; subst eo25) | ((with_reducible refine gate_builtin (b := .append) (xs := #[.tmp 39, .tmp 48]) rfl ?_); at_builtin; refine Kd.R_append_rows k61 (w0 := w) w.heap.size rfl (.tmp 39) (.tmp 48) 50 61 (.agg #[(.bool false), (.int .i64 0), (.int .i64 0), (.string ⟨#[]⟩)]) 40 rfl Try.underlying50 info61 rfl (by decide) (by omega) u5 x5_1 t201 _ _ _ (fun k_ => (w.heap.size ≤ k_) ∧ some k_ ≠ (.slice Ao25 t201.length co25 : Value).ownBlock) (fun _ => False) rfl rfl ?aO ?aR (fun _ _ h => h) (fun _ h => h.elim) ?aF ?aB ?aS ?aL ?_; (case aR => repeat (first | exact (Kd.R_reads' HO203.out).2.2 | (with_reducible refine Kd.C_alloc ?_ _) | (with_reducible refine Kd.C_drewN ?_ _) | (with_reducible refine Kd.C_drew ?_))); (case aB => exact (by repeat (first | (with_reducible first | exact HB.out | apply below_alloc | apply pw_below_drewN | apply below_drew1) | exact HB.out))); (case aF => exact (fun k_ hk => ⟨(Nat.le_trans (below_size (by repeat (first | (with_reducible first | exact HB.out | apply below_alloc | apply pw_below_drewN | apply below_drew1) | exact HB.out))) hk), Kd.fresh' (Kd.R_lt (by (with_reducible repeat (first | apply Kd.R_alloc | apply Kd.R_drewN | apply Kd.R_drew)); exact HO203.out)) k_ hk⟩)); (case aO => exact (by (with_reducible repeat (first | apply Kd.R_alloc | apply Kd.R_drewN | apply Kd.R_drew)); exact HO_5.out)); (case aS => exact (below_size (by repeat (first | (with_reducible first | exact HB.out | apply below_alloc | apply pw_below_drewN | apply below_drew1) | exact HB.out)))); (case aL => have := LMc19.out; omega); intro v205 w24 ho hb hg hat; rw [← Ny204.out] at ho; have n0_ := Aside0.mk (Kd.V_afterv (ok := (fun k_ => (P0_ k_ ∨ w.heap.size ≤ k_) ∧ some k_ ≠ (.slice Ao25 t201.length co25 : Value).ownBlock)) (by (with_reducible repeat (first | apply Kd.V_alloc | apply Kd.V_drewN | apply Kd.V_drew)); exact Kd.V_mono HO_0.out (fun _ hk => ⟨⟨hk.1.1, hk.2⟩, hk.1.2⟩)) hg hat); have n1_ := Aside0.mk (Kd.R_after (ok := (fun k_ => (w.heap.size ≤ k_))) (by (with_reducible repeat (first | apply Kd.R_alloc | apply Kd.R_drewN | apply Kd.R_drew)); exact Kd.R_mono HO203.out (fun _ hk => ⟨hk.1.1, hk.2⟩)) hg hat); have n2_ := Aside0.mk (hb); have n3_ := Aside0.mk (ho); clear HO_0; clear HO203; clear HB; clear HO_5; have HO_0 := n0_; have HO203 := n1_; have HB := n2_; have HO206 := n3_; clear n0_ n1_ n2_ n3_; clear ho hb hg hat; have p207 : 0 ≤ (x9_1 : Int) := of_decide_eq_true (by first | (with_reducible assumption) | assumption); have q207 : x9_1 < (l1.length : Int) := of_decide_eq_true (by first | (with_reducible assumption) | assumption); obtain ⟨ad207, e207, hx207_0, hx207_1, hx207_2⟩ := at_T42 HR1.out x9_1 p207 q207; obtain rfl : ad200 = ad207 := (by injection e207); replace hx207_0 := (HB.out.cell (World.block_lt_of_cell? w _ hx207_0)).trans hx207_0; replace hx207_1 := (HB.out.cell (World.block_lt_of_cell? w _ hx207_1)).trans hx207_1; replace hx207_2 := (HB.out.cell (World.block_lt_of_cell? w _ hx207_2)).trans hx207_2; replace p207 := eq_true p207; replace q207 := eq_true q207) | ((with_reducible refine gate_builtin (b := .append) (xs := #[.tmp 50, .tmp 57]) rfl ?_); at_builtin; refine Kd.R_append k61 (w0 := w) w.heap.size rfl (.tmp 50) (.tmp 57) 50 61 (.agg #[(.bool false), (.int .i64 0), (.int .i64 0), (.string ⟨#[]⟩)]) 40 rfl Try.underlying50 info61 rfl (by decide) (by omega) v205 y204 (⟨false, 0, 0, (rd_T42 l1 x9_1).f2⟩ : S61) [.bool false, .int .i64 0, .int .i64 0, .string ((rd_T42 l1 x9_1).f2)] (fun k_ => (w.heap.size ≤ k_) ∧ some k_ ≠ (.slice Ao25 t201.length co25 : Value).ownBlock) (fun _ => False) rfl rfl ?aP (fun _ hk => hk.elim) ?aF ?aO ?aB ?aS ?aL ?_; (case aP => exact k61_mkM _ _ _ (⟨false, 0, 0, (rd_T42 l1 x9_1).f2⟩ : S61)); (case aB => exact (by repeat (first | (with_reducible first | exact HB.out | apply below_alloc | apply pw_below_drewN | apply below_drew1) | exact HB.out))); (case aF => exact (fun k_ hk => ⟨(Nat.le_trans (below_size (by repeat (first | (with_reducible first | exact HB.out | apply below_alloc | apply pw_below_drewN | apply below_drew1) | exact HB.out))) hk), Kd.fresh' (Kd.R_lt (by (with_reducible repeat (first | apply Kd.R_alloc | apply Kd.R_drewN | apply Kd.R_drew)); exact HO203.out)) k_ hk⟩)); (case aO => exact (by (with_reducible repeat (first | apply Kd.R_alloc | apply Kd.R_drewN | apply Kd.R_drew)); exact HO206.out)); (case aS => exact (below_size (by repeat (first | (with_reducible first | exact HB.out | apply below_alloc | apply pw_below_drewN | apply below_drew1) | exact HB.out)))); (case aL => have := LMc20.out; omega); intro v209 w26 ho hb hg hat; rw [← Ny208.out] at ho; have n0_ := Aside0.mk (Kd.V_afterv (ok := (fun k_ => (P0_ k_ ∨ w.heap.size ≤ k_) ∧ some k_ ≠ (.slice Ao25 t201.length co25 : Value).ownBlock)) (by (with_reducible repeat (first | apply Kd.V_alloc | apply Kd.V_drewN | apply Kd.V_drew)); exact HO_0.out) hg hat); have n1_ := Aside0.mk (Kd.R_after (ok := (fun k_ => (w.heap.size ≤ k_))) (by (with_reducible repeat (first | apply Kd.R_alloc | apply Kd.R_drewN | apply Kd.R_drew)); exact HO203.out) hg hat); have n2_ := Aside0.mk (hb); have n3_ := Aside0.mk (ho); clear HO_0; clear HO203; clear HB; clear HO206; have HO_0 := n0_; have HO203 := n1_; have HB := n2_; have HO210 := n3_; clear n0_ n1_ n2_ n3_; clear ho hb hg hat; have p211 : 0 ≤ (x9_1 : Int) := of_decide_eq_true (by first | (with_reducible assumption) | assumption); have q211 : x9_1 < (l1.length : Int) := of_decide_eq_true (by first | (with_reducible assumption) | assumption); obtain ⟨ad211, e211, hx211_0, hx211_1, hx211_2⟩ := at_T42 HR1.out x9_1 p211 q211; obtain rfl : ad200 = ad211 := (by injection e211); replace hx211_0 := (HB.out.cell (World.block_lt_of_cell? w _ hx211_0)).trans hx211_0; replace hx211_1 := (HB.out.cell (World.block_lt_of_cell? w _ hx211_1)).trans hx211_1; replace hx211_2 := (HB.out.cell (World.block_lt_of_cell? w _ hx211_2)).trans hx211_2; replace p211 := eq_true p211; replace q211 := eq_true q211))
                          go_roundg k2
                          case measure => have := HK1.out; have := HK2.out; omega
                          case rel => exact ⟨(x0_2), (y208), ((rd_T42 l1 x9_1).f1), (x8_2), (wrap64 (x9_1 + 1)), (by first | rfl | (simp; done) | (simp [*]; done)), (by first | rfl | (simp; done) | (simp [*]; done)), (by first | rfl | (simp; done) | (simp [*]; done)), H', ⟨by have := HK1.out; have := HK2.out; omega⟩, ⟨by (with_reducible repeat (first | apply Kd.V_alloc | apply Kd.V_drewN | apply Kd.V_drew)); exact Kd.V_mono HO_0.out (fun _ hk => ⟨hk.1.1, hk.2⟩)⟩, ⟨by (with_reducible repeat (first | apply Kd.R_alloc | apply Kd.R_drewN | apply Kd.R_drew)); exact Kd.R_mono HO210.out (fun _ hk => hk.1)⟩, ⟨by repeat (first | (with_reducible first | exact HB.out | apply below_alloc | apply pw_below_drewN | apply below_drew1) | exact HB.out)⟩⟩
                        · rw [if_neg c20] at H
                          exact absurd H (by simp)
                      · rw [if_neg c19] at H
                        exact absurd H (by simp)
                    · rw [if_neg c17] at H
                      exact absurd H (by simp)
                  · rw [if_neg c16] at H
                    exact absurd H (by simp)
              · rw [if_neg c7] at H
                exact absurd H (by simp)
            · rw [if_neg c6] at H
              have c6b0 : decide (0 < (x0_2.length : Int)) = false := decide_eq_false c6
              have c6b1 : decide (0 < x0_2.length) = false := decide_eq_false (by omega)
              clear c6
              by_cases c27 : 0 ≤ x9_1
              · rw [if_pos c27] at H
                have c27b0 : decide (0 ≤ x9_1) = true := decide_eq_true c27
                clear c27
                by_cases c28 : x9_1 < (l1.length : Int)
                · rw [if_pos c28] at H
                  have c28b0 : decide (x9_1 < (l1.length : Int)) = true := decide_eq_true c28
                  clear c28
                  replace H := Option.bind_eq_some_iff.mp H
                  obtain ⟨t213, A290, H⟩ := H
                  replace H : (if x5_1.length + t213.length < 3518437208883 then ((some (x5_1 ++ t213 : List (S61))).bind fun y216 => (if y216.length < 3518437208883 then (monikerref1_Done.l0 k2 x0_2 l1 (y216 ++ [(⟨false, 0, 0, (rd_T42 l1 x9_1).f2⟩ : S61)]) ((rd_T42 l1 x9_1).f1) t184 x8_2 (wrap64 (x9_1 + 1))) else (none))) else (none)) = some r := H
                  have A29 := Aside0.mk A290
                  clear A290
                  by_cases c30 : x5_1.length + t213.length < 3518437208883
                  · rw [if_pos c30] at H
                    have LMc30 := Aside0.mk c30
                    clear c30
                    obtain ⟨y216, hy216⟩ : ∃ y_ : List (S61), y_ = (x5_1 ++ t213) := ⟨_, rfl⟩
                    replace H : (if y216.length < 3518437208883 then (monikerref1_Done.l0 k2 x0_2 l1 (y216 ++ [(⟨false, 0, 0, (rd_T42 l1 x9_1).f2⟩ : S61)]) ((rd_T42 l1 x9_1).f1) t184 x8_2 (wrap64 (x9_1 + 1))) else (none)) = some r := by first | (rw [hy216]; with_reducible exact H) | (have H2_ := (Option.bind_some _ _).symm.trans H; rw [hy216]; with_reducible exact H2_) | (have H2_ := (Option.bind_some _ _).symm.trans H; with_reducible exact H2_) | with_reducible exact H | (rw [hy216]; exact H) | exact H
                    have Ny216 := Aside0.mk hy216
                    clear hy216
                    by_cases c31 : y216.length < 3518437208883
                    · rw [if_pos c31] at H
                      have LMc31 := Aside0.mk c31
                      clear c31
                      obtain ⟨y220, hy220⟩ : ∃ y_ : List (S61), y_ = (y216 ++ [(⟨false, 0, 0, (rd_T42 l1 x9_1).f2⟩ : S61)]) := ⟨_, rfl⟩
                      replace H : (monikerref1_Done.l0 k2 x0_2 l1 y220 ((rd_T42 l1 x9_1).f1) t184 x8_2 (wrap64 (x9_1 + 1))) = some r := by first | (rw [hy220]; with_reducible exact H) | (have H2_ := (Option.bind_some _ _).symm.trans H; rw [hy220]; with_reducible exact H2_) | (have H2_ := (Option.bind_some _ _).symm.trans H; with_reducible exact H2_) | with_reducible exact H | (rw [hy220]; exact H) | exact H
                      have Ny220 := Aside0.mk hy220
                      clear hy220
                      have H' := Aside0.mk H
                      clear H
                      obtain ⟨Ao32, co32, eo32⟩ := Kd.V_slice HO_0.out
                      subst eo32
                      have p212 : 0 ≤ (x9_1 : Int) := of_decide_eq_true (by first | (with_reducible assumption) | assumption)
                      have q212 : x9_1 < (l1.length : Int) := of_decide_eq_true (by first | (with_reducible assumption) | assumption)
                      obtain ⟨ad212, e212, hx212_0, hx212_1, hx212_2⟩ := at_T42 HR1.out x9_1 p212 q212
                      cases e212
                      replace hx212_0 := (HB.out.cell (World.block_lt_of_cell? w _ hx212_0)).trans hx212_0
                      replace hx212_1 := (HB.out.cell (World.block_lt_of_cell? w _ hx212_1)).trans hx212_1
                      replace hx212_2 := (HB.out.cell (World.block_lt_of_cell? w _ hx212_2)).trans hx212_2
                      replace p212 := eq_true p212
                      replace q212 := eq_true q212
                      go_wp2_with (first | ((with_reducible refine gate_callee (f := 46) rfl ?_); refine goesL_ (some 48) rfl rfl Try.func46 (by kernel_rfl) rfl #[.slice Ao32 x0_2.length co32, .int .i64 x8_2, .int .i64 x6_1, .int .i64 ((rd_T42 l1 x9_1).f0)] rfl (by (try simp only [List.map_toArray, List.map_cons, List.map_nil]); first | done | rfl | (simp only [List.length_drop, List.length_take]; rfl)) ?_; (with_reducible refine (monikerref1_kept.calls k2 _ _ x0_2 x8_2 x6_1 ((rd_T42 l1 x9_1).f0) t213 _ ?side1 ?side2 A29.out).mono ?_); (case side1 => repeat (first | exact (Kd.V_reads' HO_0.out).2.2 | (with_reducible refine Kd.C_alloc ?_ _) | (with_reducible refine Kd.C_drewN ?_ _) | (with_reducible refine Kd.C_drew ?_))); (case side2 => exact (Kd.V_reads' HO_0.out).2.1); rintro e w33 ⟨v214, rfl, ho0, hb⟩; refine ⟨_, rfl, ?_⟩; have n0_ := Aside0.mk (Kd.V_elder' (by (with_reducible repeat (first | apply Kd.V_alloc | apply Kd.V_drewN | apply Kd.V_drew)); exact HO_0.out) (Kd.R_base ho0) hb); have n1_ := Aside0.mk (Kd.R_elder' (by (with_reducible repeat (first | apply Kd.R_alloc | apply Kd.R_drewN | apply Kd.R_drew)); exact HO_5.out) (Kd.R_base ho0) hb); have n2_ := Aside0.mk (Kd.R_lower (Kd.R_new' (Kd.R_newM (M := fun k_ => (w.heap.size ≤ k_)) ho0 (below_size (by repeat (first | (with_reducible first | exact HB.out | apply below_alloc | apply pw_below_drewN | apply below_drew1) | exact HB.out))) (fun k_ h_ => h_)) (Kd.R_lt (by (with_reducible repeat (first | apply Kd.R_alloc | apply Kd.R_drewN | apply Kd.R_drew)); exact HO_5.out))) (below_size (by repeat (first | (with_reducible first | exact HB.out | apply below_alloc | apply pw_below_drewN | apply below_drew1) | exact HB.out)))); have n3_ := Aside0.mk (below_step (by repeat (first | (with_reducible first | exact HB.out | apply below_alloc | apply pw_below_drewN | apply below_drew1) | exact HB.out)) hb); clear HO_0; clear HO_5; clear HB; have HO_0 := n0_; have HO_5 := n1_; have HO215 := n2_; have HB := n3_; clear n0_ n1_ n2_ n3_; (try clear hb); (try clear hb2); (try clear hk); (try clear hi); (try clear ho0); obtain ⟨Ao35, co35, eo35⟩ := Kd.R_slice HO215.out; subst eo35) | ((with_reducible refine gate_builtin (b := .append) (xs := #[.tmp 39, .tmp 48]) rfl ?_); at_builtin; refine Kd.R_append_rows k61 (w0 := w) w.heap.size rfl (.tmp 39) (.tmp 48) 50 61 (.agg #[(.bool false), (.int .i64 0), (.int .i64 0), (.string ⟨#[]⟩)]) 40 rfl Try.underlying50 info61 rfl (by decide) (by omega) u5 x5_1 t213 _ _ _ (fun k_ => (w.heap.size ≤ k_) ∧ some k_ ≠ (.slice Ao35 t213.length co35 : Value).ownBlock) (fun _ => False) rfl rfl ?aO ?aR (fun _ _ h => h) (fun _ h => h.elim) ?aF ?aB ?aS ?aL ?_; (case aR => repeat (first | exact (Kd.R_reads' HO215.out).2.2 | (with_reducible refine Kd.C_alloc ?_ _) | (with_reducible refine Kd.C_drewN ?_ _) | (with_reducible refine Kd.C_drew ?_))); (case aB => exact (by repeat (first | (with_reducible first | exact HB.out | apply below_alloc | apply pw_below_drewN | apply below_drew1) | exact HB.out))); (case aF => exact (fun k_ hk => ⟨(Nat.le_trans (below_size (by repeat (first | (with_reducible first | exact HB.out | apply below_alloc | apply pw_below_drewN | apply below_drew1) | exact HB.out))) hk), Kd.fresh' (Kd.R_lt (by (with_reducible repeat (first | apply Kd.R_alloc | apply Kd.R_drewN | apply Kd.R_drew)); exact HO215.out)) k_ hk⟩)); (case aO => exact (by (with_reducible repeat (first | apply Kd.R_alloc | apply Kd.R_drewN | apply Kd.R_drew)); exact HO_5.out)); (case aS => exact (below_size (by repeat (first | (with_reducible first | exact HB.out | apply below_alloc | apply pw_below_drewN | apply below_drew1) | exact HB.out)))); (case aL => have := LMc30.out; omega); intro v217 w34 ho hb hg hat; rw [← Ny216.out] at ho; have n0_ := Aside0.mk (Kd.V_afterv (ok := (fun k_ => (P0_ k_ ∨ w.heap.size ≤ k_) ∧ some k_ ≠ (.slice Ao35 t213.length co35 : Value).ownBlock)) (by (with_reducible repeat (first | apply Kd.V_alloc | apply Kd.V_drewN | apply Kd.V_drew)); exact Kd.V_mono HO_0.out (fun _ hk => ⟨⟨hk.1.1, hk.2⟩, hk.1.2⟩)) hg hat); have n1_ := Aside0.mk (Kd.R_after (ok := (fun k_ => (w.heap.size ≤ k_))) (by (with_reducible repeat (first | apply Kd.R_alloc | apply Kd.R_drewN | apply Kd.R_drew)); exact Kd.R_mono HO215.out (fun _ hk => ⟨hk.1.1, hk.2⟩)) hg hat); have n2_ := Aside0.mk (hb); have n3_ := Aside0.mk (ho); clear HO_0; clear HO215; clear HB; clear HO_5; have HO_0 := n0_; have HO215 := n1_; have HB := n2_; have HO218 := n3_; clear n0_ n1_ n2_ n3_; clear ho hb hg hat; have p219 : 0 ≤ (x9_1 : Int) := of_decide_eq_true (by first | (with_reducible assumption) | assumption); have q219 : x9_1 < (l1.length : Int) := of_decide_eq_true (by first | (with_reducible assumption) | assumption); obtain ⟨ad219, e219, hx219_0, hx219_1, hx219_2⟩ := at_T42 HR1.out x9_1 p219 q219; obtain rfl : ad212 = ad219 := (by injection e219); replace hx219_0 := (HB.out.cell (World.block_lt_of_cell? w _ hx219_0)).trans hx219_0; replace hx219_1 := (HB.out.cell (World.block_lt_of_cell? w _ hx219_1)).trans hx219_1; replace hx219_2 := (HB.out.cell (World.block_lt_of_cell? w _ hx219_2)).trans hx219_2; replace p219 := eq_true p219; replace q219 := eq_true q219) | ((with_reducible refine gate_builtin (b := .append) (xs := #[.tmp 50, .tmp 57]) rfl ?_); at_builtin; refine Kd.R_append k61 (w0 := w) w.heap.size rfl (.tmp 50) (.tmp 57) 50 61 (.agg #[(.bool false), (.int .i64 0), (.int .i64 0), (.string ⟨#[]⟩)]) 40 rfl Try.underlying50 info61 rfl (by decide) (by omega) v217 y216 (⟨false, 0, 0, (rd_T42 l1 x9_1).f2⟩ : S61) [.bool false, .int .i64 0, .int .i64 0, .string ((rd_T42 l1 x9_1).f2)] (fun k_ => (w.heap.size ≤ k_) ∧ some k_ ≠ (.slice Ao35 t213.length co35 : Value).ownBlock) (fun _ => False) rfl rfl ?aP (fun _ hk => hk.elim) ?aF ?aO ?aB ?aS ?aL ?_; (case aP => exact k61_mkM _ _ _ (⟨false, 0, 0, (rd_T42 l1 x9_1).f2⟩ : S61)); (case aB => exact (by repeat (first | (with_reducible first | exact HB.out | apply below_alloc | apply pw_below_drewN | apply below_drew1) | exact HB.out))); (case aF => exact (fun k_ hk => ⟨(Nat.le_trans (below_size (by repeat (first | (with_reducible first | exact HB.out | apply below_alloc | apply pw_below_drewN | apply below_drew1) | exact HB.out))) hk), Kd.fresh' (Kd.R_lt (by (with_reducible repeat (first | apply Kd.R_alloc | apply Kd.R_drewN | apply Kd.R_drew)); exact HO215.out)) k_ hk⟩)); (case aO => exact (by (with_reducible repeat (first | apply Kd.R_alloc | apply Kd.R_drewN | apply Kd.R_drew)); exact HO218.out)); (case aS => exact (below_size (by repeat (first | (with_reducible first | exact HB.out | apply below_alloc | apply pw_below_drewN | apply below_drew1) | exact HB.out)))); (case aL => have := LMc31.out; omega); intro v221 w36 ho hb hg hat; rw [← Ny220.out] at ho; have n0_ := Aside0.mk (Kd.V_afterv (ok := (fun k_ => (P0_ k_ ∨ w.heap.size ≤ k_) ∧ some k_ ≠ (.slice Ao35 t213.length co35 : Value).ownBlock)) (by (with_reducible repeat (first | apply Kd.V_alloc | apply Kd.V_drewN | apply Kd.V_drew)); exact HO_0.out) hg hat); have n1_ := Aside0.mk (Kd.R_after (ok := (fun k_ => (w.heap.size ≤ k_))) (by (with_reducible repeat (first | apply Kd.R_alloc | apply Kd.R_drewN | apply Kd.R_drew)); exact HO215.out) hg hat); have n2_ := Aside0.mk (hb); have n3_ := Aside0.mk (ho); clear HO_0; clear HO215; clear HB; clear HO218; have HO_0 := n0_; have HO215 := n1_; have HB := n2_; have HO222 := n3_; clear n0_ n1_ n2_ n3_; clear ho hb hg hat; have p223 : 0 ≤ (x9_1 : Int) := of_decide_eq_true (by first | (with_reducible assumption) | assumption); have q223 : x9_1 < (l1.length : Int) := of_decide_eq_true (by first | (with_reducible assumption) | assumption); obtain ⟨ad223, e223, hx223_0, hx223_1, hx223_2⟩ := at_T42 HR1.out x9_1 p223 q223; obtain rfl : ad212 = ad223 := (by injection e223); replace hx223_0 := (HB.out.cell (World.block_lt_of_cell? w _ hx223_0)).trans hx223_0; replace hx223_1 := (HB.out.cell (World.block_lt_of_cell? w _ hx223_1)).trans hx223_1; replace hx223_2 := (HB.out.cell (World.block_lt_of_cell? w _ hx223_2)).trans hx223_2; replace p223 := eq_true p223; replace q223 := eq_true q223))
                      go_roundg k2
                      case measure => have := HK1.out; have := HK2.out; omega
                      case rel => exact ⟨(x0_2), (y220), ((rd_T42 l1 x9_1).f1), (x8_2), (wrap64 (x9_1 + 1)), (by first | rfl | (simp; done) | (simp [*]; done)), (by first | rfl | (simp; done) | (simp [*]; done)), (by first | rfl | (simp; done) | (simp [*]; done)), H', ⟨by have := HK1.out; have := HK2.out; omega⟩, ⟨by (with_reducible repeat (first | apply Kd.V_alloc | apply Kd.V_drewN | apply Kd.V_drew)); exact Kd.V_mono HO_0.out (fun _ hk => ⟨hk.1.1, hk.2⟩)⟩, ⟨by (with_reducible repeat (first | apply Kd.R_alloc | apply Kd.R_drewN | apply Kd.R_drew)); exact Kd.R_mono HO222.out (fun _ hk => hk.1)⟩, ⟨by repeat (first | (with_reducible first | exact HB.out | apply below_alloc | apply pw_below_drewN | apply below_drew1) | exact HB.out)⟩⟩
                    · rw [if_neg c31] at H
                      exact absurd H (by simp)
                  · rw [if_neg c30] at H
                    exact absurd H (by simp)
                · rw [if_neg c28] at H
                  exact absurd H (by simp)
              · rw [if_neg c27] at H
                exact absurd H (by simp)
      · rw [if_neg c5] at H
        have c5b0 : decide (x9_1 < (l1.length : Int)) = false := decide_eq_false c5
        clear c5
        replace H := Option.bind_eq_some_iff.mp H
        obtain ⟨t185, A370, H⟩ := H
        replace H : (if x5_1.length + t185.length < 3518437208883 then (some (x5_1 ++ t185)) else (none)) = some r := H
        have A37 := Aside0.mk A370
        clear A370
        by_cases c38 : x5_1.length + t185.length < 3518437208883
        · rw [if_pos c38] at H
          have LMc38 := Aside0.mk c38
          clear c38
          obtain ⟨y188, hy188⟩ : ∃ y_ : List (S61), y_ = (x5_1 ++ t185) := ⟨_, rfl⟩
          replace H : (some y188) = some r := by first | (rw [hy188]; with_reducible exact H) | (have H2_ := (Option.bind_some _ _).symm.trans H; rw [hy188]; with_reducible exact H2_) | (have H2_ := (Option.bind_some _ _).symm.trans H; with_reducible exact H2_) | with_reducible exact H | (rw [hy188]; exact H) | exact H
          have Ny188 := Aside0.mk hy188
          clear hy188
          obtain rfl := Option.some.inj H
          obtain ⟨Ao39, co39, eo39⟩ := Kd.V_slice HO_0.out
          subst eo39
          go_wp2_with (first | ((with_reducible refine gate_callee (f := 46) rfl ?_); refine goesL_ (some 69) rfl rfl Try.func46 (by kernel_rfl) rfl #[.slice Ao39 x0_1.length co39, .int .i64 x8_1, .int .i64 x6_1, .int .i64 t184] rfl (by (try simp only [List.map_toArray, List.map_cons, List.map_nil]); first | done | rfl | (simp only [List.length_drop, List.length_take]; rfl)) ?_; (with_reducible refine (monikerref1_kept.calls k1 _ _ x0_1 x8_1 x6_1 t184 t185 _ ?side1 ?side2 A37.out).mono ?_); (case side1 => repeat (first | exact (Kd.V_reads' HO_0.out).2.2 | (with_reducible refine Kd.C_alloc ?_ _) | (with_reducible refine Kd.C_drewN ?_ _) | (with_reducible refine Kd.C_drew ?_))); (case side2 => exact (Kd.V_reads' HO_0.out).2.1); rintro e w40 ⟨v186, rfl, ho0, hb⟩; refine ⟨_, rfl, ?_⟩; have n0_ := Aside0.mk (Kd.V_elder' (by (with_reducible repeat (first | apply Kd.V_alloc | apply Kd.V_drewN | apply Kd.V_drew)); exact HO_0.out) (Kd.R_base ho0) hb); have n1_ := Aside0.mk (Kd.R_elder' (by (with_reducible repeat (first | apply Kd.R_alloc | apply Kd.R_drewN | apply Kd.R_drew)); exact HO_5.out) (Kd.R_base ho0) hb); have n2_ := Aside0.mk (Kd.R_lower (Kd.R_new' (Kd.R_newM (M := fun k_ => (w.heap.size ≤ k_)) ho0 (below_size (by repeat (first | (with_reducible first | exact HB.out | apply below_alloc | apply pw_below_drewN | apply below_drew1) | exact HB.out))) (fun k_ h_ => h_)) (Kd.R_lt (by (with_reducible repeat (first | apply Kd.R_alloc | apply Kd.R_drewN | apply Kd.R_drew)); exact HO_5.out))) (below_size (by repeat (first | (with_reducible first | exact HB.out | apply below_alloc | apply pw_below_drewN | apply below_drew1) | exact HB.out)))); have n3_ := Aside0.mk (below_step (by repeat (first | (with_reducible first | exact HB.out | apply below_alloc | apply pw_below_drewN | apply below_drew1) | exact HB.out)) hb); clear HO_0; clear HO_5; clear HB; have HO_0 := n0_; have HO_5 := n1_; have HO187 := n2_; have HB := n3_; clear n0_ n1_ n2_ n3_; (try clear hb); (try clear hb2); (try clear hk); (try clear hi); (try clear ho0); obtain ⟨Ao42, co42, eo42⟩ := Kd.R_slice HO187.out; subst eo42) | ((with_reducible refine gate_builtin (b := .append) (xs := #[.tmp 64, .tmp 69]) rfl ?_); at_builtin; refine Kd.R_append_rows k61 (w0 := w) w.heap.size rfl (.tmp 64) (.tmp 69) 50 61 (.agg #[(.bool false), (.int .i64 0), (.int .i64 0), (.string ⟨#[]⟩)]) 40 rfl Try.underlying50 info61 rfl (by decide) (by omega) u5 x5_1 t185 _ _ _ (fun k_ => (w.heap.size ≤ k_) ∧ some k_ ≠ (.slice Ao42 t185.length co42 : Value).ownBlock) (fun _ => False) rfl rfl ?aO ?aR (fun _ _ h => h) (fun _ h => h.elim) ?aF ?aB ?aS ?aL ?_; (case aR => repeat (first | exact (Kd.R_reads' HO187.out).2.2 | (with_reducible refine Kd.C_alloc ?_ _) | (with_reducible refine Kd.C_drewN ?_ _) | (with_reducible refine Kd.C_drew ?_))); (case aB => exact (by repeat (first | (with_reducible first | exact HB.out | apply below_alloc | apply pw_below_drewN | apply below_drew1) | exact HB.out))); (case aF => exact (fun k_ hk => ⟨(Nat.le_trans (below_size (by repeat (first | (with_reducible first | exact HB.out | apply below_alloc | apply pw_below_drewN | apply below_drew1) | exact HB.out))) hk), Kd.fresh' (Kd.R_lt (by (with_reducible repeat (first | apply Kd.R_alloc | apply Kd.R_drewN | apply Kd.R_drew)); exact HO187.out)) k_ hk⟩)); (case aO => exact (by (with_reducible repeat (first | apply Kd.R_alloc | apply Kd.R_drewN | apply Kd.R_drew)); exact HO_5.out)); (case aS => exact (below_size (by repeat (first | (with_reducible first | exact HB.out | apply below_alloc | apply pw_below_drewN | apply below_drew1) | exact HB.out)))); (case aL => have := LMc38.out; omega); intro v189 w41 ho hb hg hat; rw [← Ny188.out] at ho; have n0_ := Aside0.mk (Kd.V_afterv (ok := (fun k_ => (P0_ k_ ∨ w.heap.size ≤ k_) ∧ some k_ ≠ (.slice Ao42 t185.length co42 : Value).ownBlock)) (by (with_reducible repeat (first | apply Kd.V_alloc | apply Kd.V_drewN | apply Kd.V_drew)); exact Kd.V_mono HO_0.out (fun _ hk => ⟨⟨hk.1.1, hk.2⟩, hk.1.2⟩)) hg hat); have n1_ := Aside0.mk (Kd.R_after (ok := (fun k_ => (w.heap.size ≤ k_))) (by (with_reducible repeat (first | apply Kd.R_alloc | apply Kd.R_drewN | apply Kd.R_drew)); exact Kd.R_mono HO187.out (fun _ hk => ⟨hk.1.1, hk.2⟩)) hg hat); have n2_ := Aside0.mk (hb); have n3_ := Aside0.mk (ho); clear HO_0; clear HO187; clear HB; clear HO_5; have HO_0 := n0_; have HO187 := n1_; have HB := n2_; have HO190 := n3_; clear n0_ n1_ n2_ n3_; clear ho hb hg hat))
          go_ret
          exact ⟨_, by first | rfl | (simp [errW_none, errW_some] <;> rfl) | (simp [*, errW_none, errW_some] <;> rfl), by (with_reducible repeat (first | apply Kd.R_alloc | apply Kd.R_drewN | apply Kd.R_drew)); exact Kd.R_mono HO190.out (fun _ hk => hk.1), by repeat (first | (with_reducible first | exact HB.out | apply below_alloc | apply pw_below_drewN | apply below_drew1) | exact HB.out)⟩
        · rw [if_neg c38] at H
          exact absurd H (by simp)

end Go.Proofs.Ytaihajmdngoeiaa.F

-- A text of this session's own program (wip/myprint.sh over a changed print tool): functions and their walks
namespace Go.Proofs.Ytaihajmdngoeiaa.F
open Go.RowKit Go.Proofs.YtaihajmdngoeiaaW.PrintWords Go.Proofs.YtaihajmdngoeiaaW.PrintLast Go.Proofs.YtaihajmdngoeiaaW.PrintMore
attribute [local go_sem] max2_int min2_int max_two min_two max_three min_three max_four min_four   -- for this text's walks alone
set_option linter.unusedVariables false
set_option linter.unusedSimpArgs false

/-! ### monikerref1_Whole: function 37 -/
def monikerref1_Whole.f (a0 : Int) : Option ((List (S61))) := if a0 = 0 then (some ([] : List (S61))) else (some (([(⟨true, 0, a0, (⟨#[]⟩ : ByteArray)⟩ : S61)] : List (S61))))
set_option maxHeartbeats 8000000 in
set_option maxRecDepth 100000 in
theorem monikerref1_Whole.calls (a0 : Int) (r : List (S61)) (w : World) (h : monikerref1_Whole.f a0 = some r) :
    Calls Try.prog 37 #[.int .i64 a0] w fun e w' => ∃ v0_ : Value, e = .returned (v0_) ∧ Kd.R k61 61 w' w.heap.size (fun _ => True) v0_ r ∧ Below w.heap.size w w' := by
  have hu61 := Try.underlying61
  have HB := Aside0.mk (Below.refl w.heap.size w)
  have H : (if a0 = 0 then (some ([] : List (S61))) else (some (([(⟨true, 0, a0, (⟨#[]⟩ : ByteArray)⟩ : S61)] : List (S61))))) = some r := h
  clear h
  by_cases c2 : a0 = 0
  · rw [if_pos c2] at H
    have c2b0 : (a0 == 0) = true := beq_iff_eq.mpr c2
    have c2b1 : (a0 != 0) = false := bne_eq_false_iff_eq.mpr c2
    clear c2
    obtain rfl := Option.some.inj H
    go_enter Try.func37, Try.ntmps37
    go_wp2
    go_ret
    exact ⟨_, by first | rfl | (simp [errW_none, errW_some] <;> rfl) | (simp [*, errW_none, errW_some] <;> rfl), by first | exact Kd.R_nil _ _ _ _ _ | exact Kd.N_nil _ _ _ _ _ | exact Kd.V_nil _ _ _ _ _ | exact Kd.Q_nil _ _ _ _ _ | exact Kd.S_nil _ _ _ _ _, by repeat (first | (with_reducible first | exact HB.out | apply below_alloc | apply pw_below_drewN | apply below_drew1) | exact HB.out)⟩
  · rw [if_neg c2] at H
    have c2b0 : (a0 == 0) = false := beq_eq_false_iff_ne.mpr c2
    have c2b1 : (a0 != 0) = true := bne_iff_ne.mpr c2
    obtain ⟨y224, hy224⟩ : ∃ y_ : List (S61), y_ = (([(⟨true, 0, a0, (⟨#[]⟩ : ByteArray)⟩ : S61)] : List (S61))) := ⟨_, rfl⟩
    replace H : (some y224) = some r := by first | (rw [hy224]; with_reducible exact H) | (have H2_ := (Option.bind_some _ _).symm.trans H; rw [hy224]; with_reducible exact H2_) | (have H2_ := (Option.bind_some _ _).symm.trans H; with_reducible exact H2_) | with_reducible exact H | (rw [hy224]; exact H) | exact H
    have Ny224 := Aside0.mk hy224
    clear hy224
    obtain rfl := Option.some.inj H
    go_enter Try.func37, Try.ntmps37
    go_wp2_with (first | ((with_reducible refine gate_dst (N := 7) rfl ?_); refine Kd.R_lit k61 _ 61 ?hg (N := 7) ?hd (xs := ([(⟨true, 0, a0, (⟨#[]⟩ : ByteArray)⟩ : S61)] : List (S61))) (inner := [.bool true, .int .i64 0, .int .i64 a0, .string (⟨#[]⟩ : ByteArray)]) (ok := fun _ => True) (okp := fun _ => True) ?hr ?hp (fun _ hk => hk) trivial (Below.refl _ _) (Nat.le_refl _) (by simp) ?_; (case hd => rfl); (case hg => rfl); (case hr => first | (go_simp; done) | (go_simp; rfl)); (case hp => exact (Reps.c4 (show Kd.M k61 _ _ _ (⟨true, 0, a0, (⟨#[]⟩ : ByteArray)⟩ : S61) [.bool true, .int .i64 0, .int .i64 a0, .string (⟨#[]⟩ : ByteArray)] from (k61_mkM _ _ _ (⟨true, 0, a0, (⟨#[]⟩ : ByteArray)⟩ : S61) )) (Reps.none _ _))); intro v225 w3 ho4 hb hg_ hnew_; clear hg_ hnew_; (first | rw [← Ny224.out] at ho4 | (simp only [Int.reduceToNat] at ho4; rw [← Ny224.out] at ho4)); have n0_ := Aside0.mk (Kd.R_lower ho4 (below_size (by repeat (first | (with_reducible first | exact HB.out | apply below_alloc | apply pw_below_drewN | apply below_drew1) | exact HB.out)))); have n1_ := Aside0.mk (below_step (by repeat (first | (with_reducible first | exact HB.out | apply below_alloc | apply pw_below_drewN | apply below_drew1) | exact HB.out)) hb); clear HB; have HO226 := n0_; have HB := n1_; clear n0_ n1_; clear hb ho4))
    go_ret
    exact ⟨_, by first | rfl | (simp [errW_none, errW_some] <;> rfl) | (simp [*, errW_none, errW_some] <;> rfl), by (with_reducible repeat (first | apply Kd.R_alloc | apply Kd.R_drewN | apply Kd.R_drew)); exact HO226.out, by repeat (first | (with_reducible first | exact HB.out | apply below_alloc | apply pw_below_drewN | apply below_drew1) | exact HB.out)⟩

end Go.Proofs.Ytaihajmdngoeiaa.F

namespace Go.Proofs.Ytaihajmdngoeiaa.Q
open Go.RowKit Go.Proofs.YtaihajmdngoeiaaW.PrintWords Go.Proofs.YtaihajmdngoeiaaW.PrintLast Go.Proofs.YtaihajmdngoeiaaW.PrintMore
open Go.Proofs.Ytaihajmdngoeiaa.F

theorem rd61_at (l : List S61) (i : Nat) (h : i < l.length) : rd_T61 l (i : Int) = l[i] := by
  simp [rd_T61, List.getD_eq_getElem?_getD, h]
theorem mx_0 {x : Int} (h : 0 ≤ x) : mx x 0 = x := by unfold mx; omega
theorem mn_le {x y : Int} (h : x ≤ y) : mn x y = x := by unfold mn; omega

def whole (F : Int) : List S61 := if F = 0 then [] else [⟨true, 0, F, ⟨#[]⟩⟩]
theorem Whole_is (F : Int) : monikerref1_Whole.f F = some (whole F) := by
  unfold monikerref1_Whole.f whole
  split <;> rfl
def kp (a b : Int) : List S61 := if a < b then [⟨true, a, b, ⟨#[]⟩⟩] else []
/-- What a list of edits leaves of one run: the kept stretches and the texts. -/
def segs (F : Int) : Int → List S42 → List S61
  | a, [] => kp a F
  | a, e :: t => kp a e.f0 ++ ⟨false, 0, 0, e.f2⟩ :: segs F e.f1 t

theorem kept_one (F x y : Int) (hF : 0 ≤ F) (hF2 : F ≤ 4611686018427387904) (hx : 0 ≤ x) (hxF : x ≤ F) (hy : 0 ≤ y) (hyF : y ≤ F) : Ev (fun k => monikerref1_kept.f k (whole F) 0 x y) (kp x y) := by
  unfold monikerref1_kept.f whole
  by_cases h0 : F = 0
  · rw [if_pos h0]
    refine ⟨2, fun n hn => ?_⟩
    obtain ⟨k, rfl⟩ : ∃ m, n = m + 2 := ⟨n - 2, by omega⟩
    simp only [monikerref1_kept.l0]
    rw [if_neg (by simp)]
    simp only [monikerref1_kept.j1, kp]
    rw [if_neg (by simp), if_neg (by omega)]
  · rw [if_neg h0]
    refine ⟨6, fun n hn => ?_⟩
    obtain ⟨k, rfl⟩ : ∃ m, n = m + 6 := ⟨n - 6, by omega⟩
    have hend : ∀ (j : Nat) (a : Int) (o : List S61), monikerref1_kept.l0 (j + 2) [⟨true, 0, F, ⟨#[]⟩⟩] a x y o 1 = some o := by
      intro j a o
      simp only [monikerref1_kept.l0]
      rw [if_neg (by simp)]
      simp only [monikerref1_kept.j1]
      rw [if_neg (by simp)]
    have hr : rd_T61 [⟨true, 0, F, ⟨#[]⟩⟩] 0 = ⟨true, 0, F, ⟨#[]⟩⟩ := rfl
    have hw : wrap64 (F - 0) = F := by rw [w64] <;> omega
    have hw1 : wrap64 (x - 0) = x := by rw [w64] <;> omega
    have hw2 : wrap64 (y - 0) = y := by rw [w64] <;> omega
    have hw3 : wrap64 (0 + 1) = 1 := by rw [w64] <;> omega
    have hw4 : wrap64 (0 + x) = x := by rw [w64] <;> omega
    have hw5 : wrap64 (0 + y) = y := by rw [w64] <;> omega
    simp only [monikerref1_kept.l0]
    rw [if_pos (by simp)]
    simp only [monikerref1_kept.j1]
    rw [if_pos (by simp; omega), if_pos (by omega), if_pos (by simp), hr]
    simp only [monikerref1_Run_size.f, if_true, Option.bind_some, hw]
    rw [if_neg h0]
    simp only [monikerref1_kept.j2]
    rw [if_neg (by simp), hr]
    simp only [hw1, hw2, hw3]
    rw [mx_0 hx, mn_le hyF]
    unfold kp
    by_cases hxy : x < y
    · rw [if_pos hxy, if_pos hxy, if_pos (by omega), if_pos (by simp)]
      simp only [monikerref1_Run_part.f, if_true, Option.bind_some, hw4, hw5]
      rw [if_pos (by simp)]
      exact hend _ _ _
    · rw [if_neg hxy, if_neg hxy]
      exact hend _ _ _

theorem done_loop (F : Int) (hF : 0 ≤ F) (hF2 : F ≤ 4611686018427387904) (es : List S42) (hlen : es.length ≤ 65536) (d : Nat) : ∀ (i : Nat) (at_ : Int) (out : List S61) (p : Option Int), i ≤ es.length → es.length - i = d → 0 ≤ at_ → at_ ≤ F → Chain F p (es.drop i) → out.length + 2 * d ≤ 200000 →
    Ev (fun k => monikerref1_Done.l0 k (whole F) es out at_ F 0 (i : Int)) (out ++ segs F at_ (es.drop i)) := by
  induction d with
  | zero =>
    intro i at_ out p h1 h2 ha1 ha2 hc ho
    obtain ⟨K, hK⟩ := kept_one F at_ F hF hF2 ha1 ha2 hF (Int.le_refl _)
    refine ⟨K + 1, fun n hn => ?_⟩
    obtain ⟨k, rfl⟩ : ∃ m, n = m + 1 := ⟨n - 1, by omega⟩
    have := hK k (by omega)
    simp only at this
    simp only [monikerref1_Done.l0]
    rw [if_neg (by omega), this, List.drop_eq_nil_of_le (by omega)]
    simp only [Option.bind_some, segs]
    have hk : (kp at_ F).length ≤ 1 := by unfold kp; split <;> simp
    rw [if_pos (by omega)]
  | succ d ih =>
    intro i at_ out p h1 h2 ha1 ha2 hc ho
    have hi : i < es.length := by omega
    have hw : wrap64 ((i : Int) + 1) = ((i + 1 : Nat) : Int) := by rw [w64] <;> omega
    have hci : (i : Int) < (es.length : Int) := by omega
    have hc0 : (0 : Int) ≤ (i : Int) := by omega
    have hnl : ¬ wrap64 (0 + wrap64 (F - 0)) < at_ := by rw [w64 (x := F - 0) (by omega) (by omega), w64] <;> omega
    rw [List.drop_eq_getElem_cons hi] at hc ⊢
    obtain ⟨c1, c2, c3, c4, c5⟩ := hc
    obtain ⟨K, hK⟩ := kept_one F at_ (es[i]).f0 hF hF2 ha1 ha2 c1 (by omega)
    have hk : (kp at_ (es[i]).f0).length ≤ 1 := by unfold kp; split <;> simp
    have hb1 : out.length + (kp at_ (es[i]).f0).length < 3518437208883 := by omega
    have hb2 : (out ++ kp at_ (es[i]).f0).length < 3518437208883 := by rw [List.length_append]; omega
    obtain ⟨K', hK'⟩ := ih (i + 1) (es[i]).f1 (out ++ kp at_ (es[i]).f0 ++ [⟨false, 0, 0, (es[i]).f2⟩]) (some (es[i]).f1) (by omega) (by omega) (by omega) c3 c5 (by simp; omega)
    refine ⟨K + K' + 2, fun n hn => ?_⟩
    obtain ⟨k, rfl⟩ : ∃ m, n = m + 2 := ⟨n - 2, by omega⟩
    have g1 := hK k (by omega)
    have g2 := hK' k (by omega)
    simp only at g1 g2
    have htail : ((monikerref1_kept.f k (whole F) 0 at_ (es[i]).f0).bind fun t180 => (if out.length + t180.length < 3518437208883 then ((some (out ++ t180 : List S61)).bind fun y183 => (if y183.length < 3518437208883 then (monikerref1_Done.l0 k (whole F) es (y183 ++ [(⟨false, 0, 0, (es[i]).f2⟩ : S61)]) ((es[i]).f1) F 0 (wrap64 ((i : Int) + 1))) else (none))) else (none))) = some (out ++ segs F at_ (es[i] :: es.drop (i + 1))) := by
      rw [g1]
      simp only [Option.bind_some]
      rw [if_pos hb1, if_pos hb2, hw, g2]
      simp [segs]
    simp only [monikerref1_Done.l0]
    rw [if_pos hci]
    simp only [monikerref1_Done.l1, rd_at es i hi]
    by_cases h0 : F = 0
    · have hw0 : whole F = [] := by unfold whole; rw [if_pos h0]
      rw [hw0] at htail ⊢
      rw [if_neg (by simp), if_pos hc0, if_pos hci]
      exact htail
    · have hw0 : whole F = [⟨true, 0, F, ⟨#[]⟩⟩] := by unfold whole; rw [if_neg h0]
      rw [hw0] at htail ⊢
      have hr : rd_T61 [⟨true, 0, F, ⟨#[]⟩⟩] 0 = ⟨true, 0, F, ⟨#[]⟩⟩ := rfl
      rw [if_pos (by simp), if_pos (by simp), hr]
      simp only [monikerref1_Run_size.f, if_true, Option.bind_some]
      rw [if_neg hnl, if_pos hc0, if_pos hci]
      exact htail

theorem Size_whole (F : Int) (hF : 0 ≤ F) (hF2 : F ≤ 4611686018427387904) : Ev (fun k => monikerref1_Size.f k (whole F)) F := by
  unfold monikerref1_Size.f whole
  by_cases h0 : F = 0
  · rw [if_pos h0]
    refine ⟨1, fun n hn => ?_⟩
    obtain ⟨k, rfl⟩ : ∃ m, n = m + 1 := ⟨n - 1, by omega⟩
    simp only [monikerref1_Size.l0]
    rw [if_neg (by simp), h0]
  · rw [if_neg h0]
    refine ⟨2, fun n hn => ?_⟩
    obtain ⟨k, rfl⟩ : ∃ m, n = m + 2 := ⟨n - 2, by omega⟩
    have hr : rd_T61 [⟨true, 0, F, ⟨#[]⟩⟩] 0 = ⟨true, 0, F, ⟨#[]⟩⟩ := rfl
    simp only [monikerref1_Size.l0]
    rw [if_pos (by simp), if_pos (by omega), hr]
    simp only [monikerref1_Run_size.f, if_true, Option.bind_some]
    rw [w64 (x := F - 0) (by omega) (by omega), w64 (x := 0 + 1) (by omega) (by omega), if_neg (by simp), w64 (by omega) (by omega)]
    simp
theorem Done_is (F : Int) (hF : 0 ≤ F) (hF2 : F ≤ 4611686018427387904) (es : List S42) (hlen : es.length ≤ 65536) (hc : Chain F none es) : Ev (fun k => monikerref1_Done.f k (whole F) es) (segs F 0 es) := by
  unfold monikerref1_Done.f
  refine (Size_whole F hF hF2).bind ?_
  have := done_loop F hF hF2 es hlen es.length 0 0 [] none (by omega) (by omega) (by omega) hF hc (by simp; omega)
  simpa using this

def piece (text : ByteArray) (r : S61) : ByteArray := if r.f0 = true then text.extract r.f1.toNat r.f2.toNat else r.f3
def saidB (text : ByteArray) : List S61 → ByteArray
  | [] => ⟨#[]⟩
  | r :: t => piece text r ++ saidB text t
theorem said_loop (text : ByteArray) (rs : List S61) (hlen : rs.length ≤ 1000000) (hr : ∀ r ∈ rs, r.f0 = true → 0 ≤ r.f1 ∧ r.f1 ≤ r.f2 ∧ r.f2 ≤ text.size) (d : Nat) : ∀ (i : Nat) (acc : ByteArray), i ≤ rs.length → rs.length - i = d → acc.size + (saidB text (rs.drop i)).size ≤ 9223372036854775807 →
    Ev (fun k => monikerref1_said.l0 k text rs acc (i : Int)) (acc ++ saidB text (rs.drop i)) := by
  induction d with
  | zero =>
    intro i acc h1 h2 hs
    refine ⟨1, fun n hn => ?_⟩
    obtain ⟨k, rfl⟩ : ∃ m, n = m + 1 := ⟨n - 1, by omega⟩
    simp only [monikerref1_said.l0]
    rw [if_neg (by omega), List.drop_eq_nil_of_le (by omega)]
    simp only [saidB]
    congr 1
    exact (ByteArray.append_empty).symm
  | succ d ih =>
    intro i acc h1 h2 hs
    have hi : i < rs.length := by omega
    rw [List.drop_eq_getElem_cons hi] at hs ⊢
    simp only [saidB] at hs ⊢
    rw [ByteArray.size_append] at hs
    obtain ⟨K, hK⟩ := ih (i + 1) (acc ++ piece text rs[i]) (by omega) (by omega) (by rw [ByteArray.size_append]; omega)
    refine ⟨K + 1, fun n hn => ?_⟩
    obtain ⟨k, rfl⟩ : ∃ m, n = m + 1 := ⟨n - 1, by omega⟩
    have g := hK k (by omega)
    have hw : wrap64 ((i : Int) + 1) = ((i + 1 : Nat) : Int) := by rw [w64] <;> omega
    simp only at g
    simp only [monikerref1_said.l0]
    rw [rd61_at rs i hi, if_pos (by omega), if_pos (by omega), hw, ← ByteArray.append_assoc]
    by_cases h : (rs[i]).f0 = true
    · obtain ⟨e1, e2, e3⟩ := hr _ (List.getElem_mem hi) h
      have hp : piece text rs[i] = text.extract (rs[i]).f1.toNat (rs[i]).f2.toNat := by unfold piece; rw [if_pos h]
      rw [hp] at g hs ⊢
      rw [if_pos h, if_pos e1, if_pos e2, if_pos e3, if_pos (by omega)]
      exact g
    · have hp : piece text rs[i] = (rs[i]).f3 := by unfold piece; rw [if_neg h]
      rw [hp] at g hs ⊢
      rw [if_neg h, if_pos (by omega)]
      exact g
theorem said_is (text : ByteArray) (rs : List S61) (hlen : rs.length ≤ 1000000) (hr : ∀ r ∈ rs, r.f0 = true → 0 ≤ r.f1 ∧ r.f1 ≤ r.f2 ∧ r.f2 ≤ text.size) (hs : (saidB text rs).size ≤ 9223372036854775807) : Ev (fun k => monikerref1_said.f k text rs) (saidB text rs) := by
  unfold monikerref1_said.f
  have := said_loop text rs hlen hr rs.length 0 ⟨#[]⟩ (by omega) (by omega) (by rw [List.drop_zero, show (⟨#[]⟩ : ByteArray).size = 0 from rfl]; omega)
  have e : (⟨#[]⟩ : ByteArray) ++ saidB text (rs.drop 0) = saidB text rs := by rw [List.drop_zero]; exact ByteArray.empty_append
  rw [e] at this
  exact this

def grow (e : S42) : Int := (e.f2.size : Int) - (e.f1 - e.f0)
def sumG : List S42 → Int
  | [] => 0
  | e :: t => grow e + sumG t
theorem sumG_append : ∀ (l m : List S42), sumG (l ++ m) = sumG l + sumG m
  | [], m => by simp [sumG]
  | e :: t, m => by simp only [List.cons_append, sumG]; rw [sumG_append t m]; omega
theorem saidB_append (text : ByteArray) : ∀ (l m : List S61), saidB text (l ++ m) = saidB text l ++ saidB text m
  | [], m => by simp only [List.nil_append, saidB]; exact ByteArray.empty_append.symm
  | r :: t, m => by simp only [List.cons_append, saidB]; rw [saidB_append text t m, ByteArray.append_assoc]
theorem saidB_kp (text : ByteArray) (a b : Int) (ha : 0 ≤ a) (hb : b ≤ text.size) : ((saidB text (kp a b)).size : Int) = if a < b then b - a else 0 := by
  unfold kp
  split
  · simp only [saidB, piece]
    rw [if_pos trivial, ByteArray.size_append, ByteArray.size_extract]
    simp only [ByteArray.size, List.size_toArray, List.length_nil]
    simp only [ByteArray.size] at hb
    omega
  · simp [saidB, ByteArray.size]
theorem saidB_size (text : ByteArray) (F : Int) (hF : F = text.size) : ∀ (es : List S42) (a : Int) (p : Option Int), Chain F p es → 0 ≤ a → a ≤ F → (∀ e t, es = e :: t → a ≤ e.f0) → ((saidB text (segs F a es)).size : Int) = F - a + sumG es
  | [], a, p, _, h0, h1, _ => by
    simp only [segs, sumG]
    rw [saidB_kp text a F h0 (by omega)]
    split <;> omega
  | e :: t, a, p, ⟨c1, c2, c3, c4, c5⟩, h0, h1, h2 => by
    have ha := h2 e t rfl
    have ih := saidB_size text F hF t e.f1 (some e.f1) c5 (by omega) c3 (fun e' t' ht => by subst ht; have := c5.2.2.2.1 _ rfl; omega)
    simp only [segs, sumG]
    rw [saidB_append, ByteArray.size_append]
    simp only [saidB, piece]
    rw [ByteArray.size_append]
    simp only [Bool.false_eq_true, if_false]
    have hk := saidB_kp text a e.f0 h0 (by omega)
    unfold grow
    split at hk <;> omega
theorem segs_old (F : Int) (hF : 0 ≤ F) : ∀ (es : List S42) (a : Int) (p : Option Int), Chain F p es → 0 ≤ a → ∀ r ∈ segs F a es, r.f0 = true → 0 ≤ r.f1 ∧ r.f1 ≤ r.f2 ∧ r.f2 ≤ F
  | [], a, p, _, h0, r, hr, _ => by
    simp only [segs, kp] at hr
    split at hr
    · simp only [List.mem_singleton] at hr
      subst hr
      exact ⟨h0, by show a ≤ F; omega, Int.le_refl _⟩
    · cases hr
  | e :: t, a, p, ⟨c1, c2, c3, c4, c5⟩, h0, r, hr, hf => by
    simp only [segs, List.mem_append, List.mem_cons] at hr
    rcases hr with hr | rfl | hr
    · unfold kp at hr
      split at hr
      · simp only [List.mem_singleton] at hr
        subst hr
        exact ⟨h0, by show a ≤ e.f0; omega, by show e.f0 ≤ F; omega⟩
      · cases hr
    · cases hf
    · exact segs_old F hF t e.f1 _ c5 (by omega) r hr hf
theorem segs_len (F : Int) : ∀ (es : List S42) (a : Int), (segs F a es).length ≤ 2 * es.length + 1
  | [], a => by simp only [segs, kp]; split <;> simp
  | e :: t, a => by
    have := segs_len F t e.f1
    simp only [segs, List.length_append, List.length_cons]
    have : (kp a e.f0).length ≤ 1 := by unfold kp; split <;> simp
    omega
end Go.Proofs.Ytaihajmdngoeiaa.Q

-- A text of this session's own program (wip/myprint.sh over a changed print tool): functions and their walks
namespace Go.Proofs.Ytaihajmdngoeiaa.F
open Go.RowKit Go.Proofs.YtaihajmdngoeiaaW.PrintWords Go.Proofs.YtaihajmdngoeiaaW.PrintLast Go.Proofs.YtaihajmdngoeiaaW.PrintMore
attribute [local go_sem] max2_int min2_int max_two min_two max_three min_three max_four min_four   -- for this text's walks alone
set_option linter.unusedVariables false
set_option linter.unusedSimpArgs false

/-! ### edits_Invert: function 19 -/
def edits_Invert.l0 : Nat → ByteArray → List (S42) → Int → List (S42) → Int → Int → Option ((List (S42)) × Int)
  | 0, _, _, _, _, _, _ => none
  | k + 1, x0, x7, x8, x19, x20, x21 => if x21 < x20 then (if 0 ≤ x21 then (if x21 < (x19.length : Int) then (if 0 ≤ ((rd_T42 x19 x21).f0) then (if ((rd_T42 x19 x21).f0) ≤ ((rd_T42 x19 x21).f1) then (if ((rd_T42 x19 x21).f1) ≤ (x0.size : Int) then (if x7.length < 4398046511104 then ((edits_grows.f ((rd_T42 x19 x21).f0) ((rd_T42 x19 x21).f1) ((rd_T42 x19 x21).f2)).bind fun t152 => (edits_Invert.l0 k x0 (x7 ++ [(⟨wrap64 (((rd_T42 x19 x21).f0) + x8), wrap64 ((wrap64 (((rd_T42 x19 x21).f0) + x8)) + (((rd_T42 x19 x21).f2).size : Int)), x0.extract (((rd_T42 x19 x21).f0) : Int).toNat (((rd_T42 x19 x21).f1) : Int).toNat⟩ : S42)]) (wrap64 (x8 + t152)) x19 x20 (wrap64 (x21 + 1)))) else (none)) else (none)) else (none)) else (none)) else (none)) else (none)) else (some (x7, 0))
def edits_Invert.f (k : Nat) (a0 : ByteArray) (l1 : List (S42)) : Option ((List (S42)) × Int) := (edits_valid.f k (a0.size : Int) l1).bind fun t146 => (if t146 = 0 then (edits_Invert.l0 k a0 ([] : List (S42)) 0 l1 (l1.length : Int) 0) else (some (([] : List (S42)), t146)))
theorem edits_Invert.mono_l : ∀ k, (∀ y0 y1 y2 y3 y4 y5, LeO (edits_Invert.l0 k y0 y1 y2 y3 y4 y5) (edits_Invert.l0 (k + 1) y0 y1 y2 y3 y4 y5))
  | 0 => fun _ _ _ _ _ _ r h => by simp [edits_Invert.l0] at h
  | k + 1 => by
    have ih0 := edits_Invert.mono_l k
    · intro y0 y1 y2 y3 y4 y5
      unfold edits_Invert.l0
      repeat' first
      | (with_reducible exact ih0 _ _ _ _ _ _)
      | (with_reducible exact edits_valid.mono _ _ _)
      | (with_reducible exact LeO.refl _)
      | (with_reducible exact LeO.none _)
      | (with_reducible refine LeO.ite ?_ ?_)
      | (with_reducible refine LeO.bind ?_ (fun _ => ?_))
      | exact ih0 _ _ _ _ _ _
      | exact edits_valid.mono _ _ _
      | exact LeO.none _
      | refine LeO.ite ?_ ?_
      | refine LeO.bind ?_ (fun _ => ?_)
theorem edits_Invert.mono : ∀ a0 a1 k, LeO (edits_Invert.f k a0 a1) (edits_Invert.f (k + 1) a0 a1) := by
  intro a0 a1 k
  have ih0 := edits_Invert.mono_l k
  unfold edits_Invert.f
  repeat' first
      | (with_reducible exact ih0 _ _ _ _ _ _)
      | (with_reducible exact edits_valid.mono _ _ _)
      | (with_reducible exact LeO.refl _)
      | (with_reducible exact LeO.none _)
      | (with_reducible refine LeO.ite ?_ ?_)
      | (with_reducible refine LeO.bind ?_ (fun _ => ?_))
      | exact ih0 _ _ _ _ _ _
      | exact edits_valid.mono _ _ _
      | exact LeO.none _
      | refine LeO.ite ?_ ?_
      | refine LeO.bind ?_ (fun _ => ?_)
def edits_Invert.T10 : Bool × List (List Nat × List Nat) := (true, [([], []), ([], []), ([], []), ([], []), ([3], [3]), ([4], [4]), ([2, 5], [2, 5]), ([], []), ([], []), ([8], [8]), ([], []), ([10], [10]), ([7, 9, 11], [7, 9, 11]), ([1, 6, 12], [1, 6, 12]), ([13], [13]), ([0, 14], [0, 14]), ([15, 15, 0, 1, 2, 3, 4, 5, 6, 7, 8, 9, 10, 11, 12, 13, 14, 15], [0, 15])])
def edits_Invert.B10 : List Nat := [0, 0, 0, 0, 8, 24, 60, 0, 0, 256, 0, 1024, 3968, 8190, 16382, 32767, 65535]
theorem edits_Invert.tab10 : rtab .any (opsOf Try.f19 10) = edits_Invert.T10 := by kernel_rfl
theorem edits_Invert.bits10 : waitsOk edits_Invert.T10.2 edits_Invert.B10 = true := by kernel_rfl
set_option maxHeartbeats 8000000 in
set_option maxRecDepth 100000 in
theorem edits_Invert.calls (k : Nat) (a0 : ByteArray) (A1 : Option Addr) (c1 : Nat) (l1 : List (S42)) (r1 : List (S42)) (r2 : Int) (w : World) (hr1 : Kd.C k42 w A1 l1.length l1) (hc1 : l1.length ≤ c1) (h : edits_Invert.f k a0 l1 = some (r1, r2)) :
    Calls Try.prog 19 #[.string a0, .slice A1 l1.length c1] w fun e w' => ∃ v0_ : Value, e = .returned (.tuple #[v0_, .int .i64 r2]) ∧ Kd.R k42 42 w' w.heap.size (fun _ => True) v0_ r1 ∧ Below w.heap.size w w' := by
  have hu42 := Try.underlying42
  have HR1 := Aside0.mk hr1
  have HC1 := Aside0.mk hc1
  clear hr1 hc1
  have HB := Aside0.mk (Below.refl w.heap.size w)
  have H : ((edits_valid.f k (a0.size : Int) l1).bind fun t146 => (if t146 = 0 then (edits_Invert.l0 k a0 ([] : List (S42)) 0 l1 (l1.length : Int) 0) else (some (([] : List (S42)), t146)))) = some (r1, r2) := h
  clear h
  replace H := Option.bind_eq_some_iff.mp H
  obtain ⟨t146, A30, H⟩ := H
  replace H : (if t146 = 0 then (edits_Invert.l0 k a0 ([] : List (S42)) 0 l1 (l1.length : Int) 0) else (some (([] : List (S42)), t146))) = some (r1, r2) := H
  have A3 := Aside0.mk A30
  clear A30
  by_cases c4 : t146 = 0
  · rw [if_pos c4] at H
    have c4b0 : (t146 == 0) = true := beq_iff_eq.mpr c4
    have c4b1 : (t146 != 0) = false := bne_eq_false_iff_eq.mpr c4
    clear c4
    have H' := Aside0.mk H
    clear H
    go_enter Try.func19, Try.ntmps19
    go_wp2_with (first | ((with_reducible refine gate_callee (f := 32) rfl ?_); refine goesL_ (some 15) rfl rfl Try.func32 (by kernel_rfl) rfl #[.int .i64 (a0.size : Int), .slice A1 l1.length c1] rfl (by (try simp only [List.map_toArray, List.map_cons, List.map_nil]); first | done | rfl | (simp only [List.length_drop, List.length_take]; rfl)) ?_; (with_reducible refine (edits_valid.calls k (a0.size : Int) _ _ l1 t146 _ ?side1 ?side2 A3.out).mono ?_); (case side1 => repeat (first | exact HR1.out | (with_reducible refine Kd.C_alloc ?_ _) | (with_reducible refine Kd.C_drewN ?_ _) | (with_reducible refine Kd.C_drew ?_))); (case side2 => exact HC1.out); rintro e w5 ⟨rfl, hb⟩; refine ⟨_, rfl, ?_⟩; have n0_ := Aside0.mk (below_step (by repeat (first | (with_reducible first | exact HB.out | apply below_alloc | apply pw_below_drewN | apply below_drew1) | exact HB.out)) hb); clear HB; have HB := n0_; clear n0_; (try clear hb); (try clear hb2); (try clear hk); (try clear hi)))
    go_loopg [7, 8, 21] k (fun kq v7 v8 v21 w' => ∃ (x7_1 : List (S42)) (x8_1 : Int) (x21_1 : Int), v8 = .int .i64 x8_1 ∧ v21 = .int .i64 x21_1 ∧ Aside0 (edits_Invert.l0 kq a0 x7_1 x8_1 l1 (l1.length : Int) x21_1 = some (r1, r2)) ∧ Aside0 (kq ≤ k) ∧ Aside0 (Kd.R k42 42 w' w.heap.size (fun _ => True) v7 x7_1) ∧ Aside0 (Below w.heap.size w w'))
    case atStart => exact ⟨(([] : List (S42))), (0), (0), (by first | rfl | (simp; done) | (simp [*]; done)), (by first | rfl | (simp; done) | (simp [*]; done)), H', ⟨Nat.le_refl _⟩, ⟨by first | exact Kd.R_nil _ _ _ _ _ | exact Kd.N_nil _ _ _ _ _ | exact Kd.V_nil _ _ _ _ _ | exact Kd.Q_nil _ _ _ _ _ | exact Kd.S_nil _ _ _ _ _⟩, ⟨by repeat (first | (with_reducible first | exact HB.out | apply below_alloc | apply pw_below_drewN | apply below_drew1) | exact HB.out)⟩⟩
    case round =>
      clear H'
      try clear c1
      try clear p2
      try clear c3
      try clear c4
      try clear c4b0
      try clear c4b1
      obtain ⟨x7_1, x8_1, x21_1, rfl, rfl, HA, HK1, HO_7, HB⟩ := hrel
      cases gk with
      | zero => exact absurd HA.out (by simp [edits_Invert.l0])
      | succ k1 =>
        have H := HA.out
        clear HA
        simp only [edits_Invert.l0] at H
        by_cases c6 : x21_1 < (l1.length : Int)
        · rw [if_pos c6] at H
          have c6b0 : decide (x21_1 < (l1.length : Int)) = true := decide_eq_true c6
          clear c6
          by_cases c7 : 0 ≤ x21_1
          · rw [if_pos c7] at H
            have c7b0 : decide (0 ≤ x21_1) = true := decide_eq_true c7
            clear c7
            by_cases c8 : x21_1 < (l1.length : Int)
            · rw [if_pos c8] at H
              have c8b0 : decide (x21_1 < (l1.length : Int)) = true := decide_eq_true c8
              clear c8
              by_cases c9 : 0 ≤ ((rd_T42 l1 x21_1).f0)
              · rw [if_pos c9] at H
                have c9b0 := eq_true c9
                have c9b1 : decide (0 ≤ ((rd_T42 l1 x21_1).f0)) = true := decide_eq_true c9
                clear c9
                by_cases c10 : ((rd_T42 l1 x21_1).f0) ≤ ((rd_T42 l1 x21_1).f1)
                · rw [if_pos c10] at H
                  have c10b0 := eq_true c10
                  have c10b1 : decide (((rd_T42 l1 x21_1).f0) ≤ ((rd_T42 l1 x21_1).f1)) = true := decide_eq_true c10
                  clear c10
                  by_cases c11 : ((rd_T42 l1 x21_1).f1) ≤ (a0.size : Int)
                  · rw [if_pos c11] at H
                    have c11b0 := eq_true c11
                    have c11b1 : decide (((rd_T42 l1 x21_1).f1) ≤ (a0.size : Int)) = true := decide_eq_true c11
                    clear c11
                    by_cases c12 : x7_1.length < 4398046511104
                    · rw [if_pos c12] at H
                      have LMc12 := Aside0.mk c12
                      clear c12
                      obtain ⟨y149, hy149⟩ : ∃ y_ : List (S42), y_ = (x7_1 ++ [(⟨wrap64 (((rd_T42 l1 x21_1).f0) + x8_1), wrap64 ((wrap64 (((rd_T42 l1 x21_1).f0) + x8_1)) + (((rd_T42 l1 x21_1).f2).size : Int)), a0.extract (((rd_T42 l1 x21_1).f0) : Int).toNat (((rd_T42 l1 x21_1).f1) : Int).toNat⟩ : S42)]) := ⟨_, rfl⟩
                      replace H : ((edits_grows.f ((rd_T42 l1 x21_1).f0) ((rd_T42 l1 x21_1).f1) ((rd_T42 l1 x21_1).f2)).bind fun t152 => (edits_Invert.l0 k1 a0 y149 (wrap64 (x8_1 + t152)) l1 (l1.length : Int) (wrap64 (x21_1 + 1)))) = some (r1, r2) := by first | (rw [hy149]; with_reducible exact H) | (have H2_ := (Option.bind_some _ _).symm.trans H; rw [hy149]; with_reducible exact H2_) | (have H2_ := (Option.bind_some _ _).symm.trans H; with_reducible exact H2_) | with_reducible exact H | (rw [hy149]; exact H) | exact H
                      have Ny149 := Aside0.mk hy149
                      clear hy149
                      replace H := Option.bind_eq_some_iff.mp H
                      obtain ⟨t152, A130, H⟩ := H
                      replace H : (edits_Invert.l0 k1 a0 y149 (wrap64 (x8_1 + t152)) l1 (l1.length : Int) (wrap64 (x21_1 + 1))) = some (r1, r2) := H
                      have A13 := Aside0.mk A130
                      clear A130
                      have H' := Aside0.mk H
                      clear H
                      have p147 : 0 ≤ (x21_1 : Int) := of_decide_eq_true (by first | (with_reducible assumption) | assumption)
                      have q147 : x21_1 < (l1.length : Int) := of_decide_eq_true (by first | (with_reducible assumption) | assumption)
                      obtain ⟨ad147, e147, hx147_0, hx147_1, hx147_2⟩ := at_T42 HR1.out x21_1 p147 q147
                      cases e147
                      replace hx147_0 := (HB.out.cell (World.block_lt_of_cell? w _ hx147_0)).trans hx147_0
                      replace hx147_1 := (HB.out.cell (World.block_lt_of_cell? w _ hx147_1)).trans hx147_1
                      replace hx147_2 := (HB.out.cell (World.block_lt_of_cell? w _ hx147_2)).trans hx147_2
                      replace p147 := eq_true p147
                      replace q147 := eq_true q147
                      try go_wp2_with (first | ((with_reducible refine gate_dst (N := 10) rfl ?_); refine box_event ?hg (N := 10) ?hd (cs := #[.int .i64 0, .int .i64 0, .string (⟨#[]⟩ : ByteArray)]) (t := 42) ?hr ?_; (case hd => rfl); (case hg => rfl); (case hr => first | (go_simp; done) | (go_simp; rfl)); intro gb148 hg w14 hbox hb; have n0_ := Aside0.mk (Kd.R_below (Kd.R_elderB (by (with_reducible repeat (first | apply Kd.R_alloc | apply Kd.R_drewN | apply Kd.R_drew)); exact HO_7.out) gb148 (Nat.le_of_eq hg.symm)) hb); have n1_ := Aside0.mk (below_step (by repeat (first | (with_reducible first | exact HB.out | apply below_alloc | apply pw_below_drewN | apply below_drew1) | exact HB.out)) hb); have n2_ := Aside0.mk (hbox); have n3_ := Aside0.mk ((by rw [hg]; exact (below_size (by repeat (first | (with_reducible first | exact HB.out | apply below_alloc | apply pw_below_drewN | apply below_drew1) | exact HB.out))) : w.heap.size ≤ gb148)); have n4_ := Aside0.mk ((by rw [hg]; exact (below_size (by repeat (first | (with_reducible first | exact HB.out | apply below_alloc | apply pw_below_drewN | apply below_drew1) | exact HB.out))) : w.heap.size ≤ gb148)); clear HO_7; clear HB; have HO_7 := n0_; have HB := n1_; have BK148 := n2_; have GW148 := n3_; have GE148 := n4_; clear n0_ n1_ n2_ n3_ n4_; clear hb hbox hg; have hcz15_0 : w14.cell? ⟨gb148, 0, none⟩ = some (.int .i64 0) := (blk_cell BK148.out 0).trans rfl; have hcz15_1 : w14.cell? ⟨gb148, 1, none⟩ = some (.int .i64 0) := (blk_cell BK148.out 1).trans rfl; have hcz15_2 : w14.cell? ⟨gb148, 2, none⟩ = some (.string (⟨#[]⟩ : ByteArray)) := (blk_cell BK148.out 2).trans rfl; have hfz15_0 := blk_frozen BK148.out 0; have hfz15_1 := blk_frozen BK148.out 1; have hfz15_2 := blk_frozen BK148.out 2))
                      have n0_ : Aside0 (Kd.R k42 42 (((w14.setCell ⟨gb148, 0, none⟩ (.int .i64 ((rd_T42 l1 x21_1).f0))).setCell ⟨gb148, 1, none⟩ (.int .i64 ((rd_T42 l1 x21_1).f1))).setCell ⟨gb148, 2, none⟩ (.string ((rd_T42 l1 x21_1).f2))) w.heap.size (fun k_ => k_ ≠ gb148) u7 x7_1) := ⟨by (with_reducible repeat (first | apply Kd.R_alloc | apply Kd.R_drewN | apply Kd.R_drew)); exact Kd.R_mono (Kd.R_far (p := ⟨gb148, 2, none⟩) (Kd.R_far (p := ⟨gb148, 1, none⟩) (Kd.R_far (p := ⟨gb148, 0, none⟩) (Kd.R_mono HO_7.out (fun k_ hk => (⟨hk, hk.2⟩ : _ ∧ k_ ≠ gb148))) (fun _ hk => hk.2) (.int .i64 ((rd_T42 l1 x21_1).f0))) (fun _ hk => hk.2) (.int .i64 ((rd_T42 l1 x21_1).f1))) (fun _ hk => hk.2) (.string ((rd_T42 l1 x21_1).f2))) (fun _ hk => hk.1.2)⟩
                      have n1_ : Aside0 ((((w14.setCell ⟨gb148, 0, none⟩ (.int .i64 ((rd_T42 l1 x21_1).f0))).setCell ⟨gb148, 1, none⟩ (.int .i64 ((rd_T42 l1 x21_1).f1))).setCell ⟨gb148, 2, none⟩ (.string ((rd_T42 l1 x21_1).f2))).heap[gb148]? = some (.cells #[.int .i64 ((rd_T42 l1 x21_1).f0), .int .i64 ((rd_T42 l1 x21_1).f1), .string ((rd_T42 l1 x21_1).f2)] 42 (0, 0))) := ⟨by (with_reducible repeat (first | refine blk_drewN ?_ _ | refine blk_drew ?_ | refine blk_alloc ?_ _)); refine blk_put (cs := #[.int .i64 ((rd_T42 l1 x21_1).f0), .int .i64 ((rd_T42 l1 x21_1).f1), .string (⟨#[]⟩ : ByteArray)]) ?_ 2 _ rfl; (with_reducible repeat (first | refine blk_drewN ?_ _ | refine blk_drew ?_ | refine blk_alloc ?_ _)); refine blk_put (cs := #[.int .i64 ((rd_T42 l1 x21_1).f0), .int .i64 0, .string (⟨#[]⟩ : ByteArray)]) ?_ 1 _ rfl; (with_reducible repeat (first | refine blk_drewN ?_ _ | refine blk_drew ?_ | refine blk_alloc ?_ _)); refine blk_put (cs := #[.int .i64 0, .int .i64 0, .string (⟨#[]⟩ : ByteArray)]) ?_ 0 _ rfl; (with_reducible repeat (first | refine blk_drewN ?_ _ | refine blk_drew ?_ | refine blk_alloc ?_ _)); exact BK148.out⟩
                      have n2_ : Aside0 (Below w.heap.size w (((w14.setCell ⟨gb148, 0, none⟩ (.int .i64 ((rd_T42 l1 x21_1).f0))).setCell ⟨gb148, 1, none⟩ (.int .i64 ((rd_T42 l1 x21_1).f1))).setCell ⟨gb148, 2, none⟩ (.string ((rd_T42 l1 x21_1).f2)))) := ⟨by repeat (first | (with_reducible first | exact HB.out | apply below_alloc | apply pw_below_drewN | apply below_drew1 | refine below_set ?_ GE148.out) | exact HB.out)⟩
                      (try clear HO_7)
                      (try clear BK148)
                      (try clear HB)
                      generalize (((w14.setCell ⟨gb148, 0, none⟩ (.int .i64 ((rd_T42 l1 x21_1).f0))).setCell ⟨gb148, 1, none⟩ (.int .i64 ((rd_T42 l1 x21_1).f1))).setCell ⟨gb148, 2, none⟩ (.string ((rd_T42 l1 x21_1).f2))) = w16 at n0_ n1_ n2_ ⊢
                      have HO_7 := n0_
                      have BK148 := n1_
                      have HB := n2_
                      clear n0_ n1_ n2_
                      have n0_ := Aside0.mk (Kd.R_drew HO_7.out)
                      have n1_ := Aside0.mk (blk_drew BK148.out)
                      have n2_ := Aside0.mk (below_drew1 HB.out)
                      clear HO_7
                      clear BK148
                      clear HB
                      have HO_7 := n0_
                      have BK148 := n1_
                      have HB := n2_
                      clear n0_ n1_ n2_
                      refine start_ (n := 17) (S := fun w' => w'.cell? ⟨gb148, 0, none⟩ = some (.int .i64 ((rd_T42 l1 x21_1).f0)) ∧ w'.cell? ⟨gb148, 1, none⟩ = some (.int .i64 ((rd_T42 l1 x21_1).f1)) ∧ w'.cell? ⟨gb148, 2, none⟩ = some (.string ((rd_T42 l1 x21_1).f2))) (ds := []) #[false, false, false, false, false, false, false, false, false, false, false, false, false, false, false, false, false] (by kernel_rfl) rfl rfl ⟨(blk_cell BK148.out 0).trans rfl, (blk_cell BK148.out 1).trans rfl, (blk_cell BK148.out 2).trans rfl⟩ (fun hHeld => ?_); refine with_tabW edits_Invert.tab10 edits_Invert.bits10 (fun HT_ HW_ => ?_)
                      generalize w16.drew = w17 at HO_7 BK148 HB hHeld ⊢
                      refine pure_ (i := 0) (N := some 29) (v := ?_) (a' := ?_) #[true, false, false, false, false, false, false, false, false, false, false, false, false, false, false, false, false] rfl rfl (any_of HT_.out (by kernel_rfl)) (fun _ _ _ h => h) (Or.inl ⟨by rfl, ?_⟩) ?_ ?_
                      rotate_left
                      · intro w'
                        go_simp
                        with_reducible rfl
                      rotate_left
                      · simp only [Act.put, List.setIfInBounds_toArray, List.set_cons_zero, List.set_cons_succ, i64_w, i32_w]
                        rfl
                      refine pure_ (i := 1) (N := some 30) (v := ?_) (a' := ?_) #[true, true, false, false, false, false, false, false, false, false, false, false, false, false, false, false, false] rfl rfl (any_of HT_.out (by kernel_rfl)) (fun _ _ _ h => h) (Or.inl ⟨by rfl, ?_⟩) ?_ ?_
                      rotate_left
                      · intro w'
                        go_simp
                        with_reducible rfl
                      rotate_left
                      · simp only [Act.put, List.setIfInBounds_toArray, List.set_cons_zero, List.set_cons_succ, i64_w, i32_w]
                        rfl
                      refine pure_ (i := 2) (N := some 31) (v := ?_) (a' := ?_) #[true, true, true, false, false, false, false, false, false, false, false, false, false, false, false, false, false] rfl rfl (any_of HT_.out (by kernel_rfl)) (fun _ _ _ h => h) (Or.inl ⟨by rfl, ?_⟩) ?_ ?_
                      rotate_left
                      · intro w'
                        go_simp
                        with_reducible rfl
                      rotate_left
                      · simp only [Act.put, List.setIfInBounds_toArray, List.set_cons_zero, List.set_cons_succ, i64_w, i32_w]
                        rfl
                      refine pure_ (i := 3) (N := some 32) (v := ?_) (a' := ?_) #[true, true, true, true, false, false, false, false, false, false, false, false, false, false, false, false, false] rfl rfl (any_of HT_.out (by kernel_rfl)) (fun _ _ _ h => h) (Or.inl ⟨by rfl, ?_⟩) ?_ ?_
                      rotate_left
                      · intro w'
                        go_simp
                        with_reducible rfl
                      rotate_left
                      · simp only [Act.put, List.setIfInBounds_toArray, List.set_cons_zero, List.set_cons_succ, i64_w, i32_w]
                        rfl
                      refine pure_ (i := 7) (N := some 36) (v := ?_) (a' := ?_) #[true, true, true, true, false, false, false, true, false, false, false, false, false, false, false, false, false] rfl rfl (any_of HT_.out (by kernel_rfl)) (fun _ _ _ h => h) (Or.inl ⟨by rfl, ?_⟩) ?_ ?_
                      rotate_left
                      · intro w'
                        go_simp
                        with_reducible rfl
                      rotate_left
                      · simp only [Act.put, List.setIfInBounds_toArray, List.set_cons_zero, List.set_cons_succ, i64_w, i32_w]
                        rfl
                      refine pure_ (i := 8) (N := some 37) (v := ?_) (a' := ?_) #[true, true, true, true, false, false, false, true, true, false, false, false, false, false, false, false, false] rfl rfl (any_of HT_.out (by kernel_rfl)) (fun _ _ _ h => h) (Or.inl ⟨by rfl, ?_⟩) ?_ ?_
                      rotate_left
                      · intro w'
                        go_simp
                        with_reducible rfl
                      rotate_left
                      · simp only [Act.put, List.setIfInBounds_toArray, List.set_cons_zero, List.set_cons_succ, i64_w, i32_w]
                        rfl
                      refine pure_ (i := 10) (N := some 39) (v := ?_) (a' := ?_) #[true, true, true, true, false, false, false, true, true, false, true, false, false, false, false, false, false] rfl rfl (any_of HT_.out (by kernel_rfl)) (fun _ _ _ h => h) (Or.inl ⟨by rfl, ?_⟩) ?_ ?_
                      rotate_left
                      · intro w'
                        go_simp
                        with_reducible rfl
                      rotate_left
                      · simp only [Act.put, List.setIfInBounds_toArray, List.set_cons_zero, List.set_cons_succ, i64_w, i32_w]
                        rfl
                      refine take_ (i := 4) (N := some 33) (v := ?_) (a' := ?_) #[true, true, true, true, true, false, false, true, true, false, true, false, false, false, false, false, false] rfl rfl (take_ofW HT_.out HW_.out (by kernel_rfl)) (fun _ _ _ h => h) (Or.inl ⟨by rfl, ?_⟩) hHeld ?_ ?_
                      rotate_left
                      · rintro w' ⟨s0, s1, s2⟩
                        go_simp
                        with_reducible rfl
                      rotate_left
                      · simp only [Act.put, List.setIfInBounds_toArray, List.set_cons_zero, List.set_cons_succ, i64_w, i32_w]
                        rfl
                      refine pure_ (i := 5) (N := some 34) (v := ?_) (a' := ?_) #[true, true, true, true, true, true, false, true, true, false, true, false, false, false, false, false, false] rfl rfl (any_of HT_.out (by kernel_rfl)) (fun _ _ _ h => h) (Or.inl ⟨by rfl, ?_⟩) ?_ ?_
                      rotate_left
                      · intro w'
                        go_simp
                        with_reducible rfl
                      rotate_left
                      · simp only [Act.put, List.setIfInBounds_toArray, List.set_cons_zero, List.set_cons_succ, i64_w, i32_w]
                        rfl
                      refine pure_ (i := 6) (N := some 35) (v := ?_) (a' := ?_) #[true, true, true, true, true, true, true, true, true, false, true, false, false, false, false, false, false] rfl rfl (any_of HT_.out (by kernel_rfl)) (fun _ _ _ h => h) (Or.inl ⟨by rfl, ?_⟩) ?_ ?_
                      rotate_left
                      · intro w'
                        go_simp
                        with_reducible rfl
                      rotate_left
                      · simp only [Act.put, List.setIfInBounds_toArray, List.set_cons_zero, List.set_cons_succ, i64_w, i32_w]
                        rfl
                      refine take_ (i := 9) (N := some 38) (v := ?_) (a' := ?_) #[true, true, true, true, true, true, true, true, true, true, true, false, false, false, false, false, false] rfl rfl (take_ofW HT_.out HW_.out (by kernel_rfl)) (fun _ _ _ h => h) (Or.inl ⟨by rfl, ?_⟩) hHeld ?_ ?_
                      rotate_left
                      · rintro w' ⟨s0, s1, s2⟩
                        go_simp
                        with_reducible rfl
                      rotate_left
                      · simp only [Act.put, List.setIfInBounds_toArray, List.set_cons_zero, List.set_cons_succ, i64_w, i32_w]
                        rfl
                      refine take_ (i := 11) (N := some 40) (v := ?_) (a' := ?_) #[true, true, true, true, true, true, true, true, true, true, true, true, false, false, false, false, false] rfl rfl (take_ofW HT_.out HW_.out (by kernel_rfl)) (fun _ _ _ h => h) (Or.inl ⟨by rfl, ?_⟩) hHeld ?_ ?_
                      rotate_left
                      · rintro w' ⟨s0, s1, s2⟩
                        go_simp
                        with_reducible rfl
                      rotate_left
                      · simp only [Act.put, List.setIfInBounds_toArray, List.set_cons_zero, List.set_cons_succ, i64_w, i32_w]
                        rfl
                      refine pure_ (i := 12) (N := some 41) (v := ?_) (a' := ?_) #[true, true, true, true, true, true, true, true, true, true, true, true, true, false, false, false, false] rfl rfl (any_of HT_.out (by kernel_rfl)) (fun _ _ _ h => h) (Or.inl ⟨by rfl, ?_⟩) ?_ ?_
                      rotate_left
                      · intro w'
                        go_simp
                        with_reducible rfl
                      rotate_left
                      · simp only [Act.put, List.setIfInBounds_toArray, List.set_cons_zero, List.set_cons_succ, i64_w, i32_w]
                        rfl
                      refine pure_ (i := 13) (N := some 42) (v := ?_) (a' := ?_) #[true, true, true, true, true, true, true, true, true, true, true, true, true, true, false, false, false] rfl rfl (any_of HT_.out (by kernel_rfl)) (fun _ _ _ h => h) (Or.inl ⟨by rfl, ?_⟩) ?_ ?_
                      rotate_left
                      · intro w'
                        go_simp
                        with_reducible rfl
                      rotate_left
                      · simp only [Act.put, List.setIfInBounds_toArray, List.set_cons_zero, List.set_cons_succ, i64_w, i32_w]
                        rfl
                      refine one_ (i := 14) (N := some 43) #[true, true, true, true, true, true, true, true, true, true, true, true, true, true, true, false, false] rfl rfl (one_of HT_.out (by kernel_rfl)) (by decide) (fun K hK => ?_)
                      refine value_ (w1 := ?_) (v := ?_) (by rfl) rfl ?_ ?_
                      rotate_left 2
                      · go_simp
                        constructor
                        · rfl
                        · rfl
                      refine hK.out _ _ ⟨(blk_cell (blk_alloc BK148.out _) 0).trans rfl, (blk_cell (blk_alloc BK148.out _) 1).trans rfl, (blk_cell (blk_alloc BK148.out _) 2).trans rfl⟩ (fun hHeld => ?_)
                      clear hK K
                      refine norm_ (a' := ?_) ?_ ?_
                      rotate_left
                      · show Act.put _ (some 43) _ = _
                        simp only [Act.put, List.setIfInBounds_toArray, List.set_cons_zero, List.set_cons_succ, i64_w, i32_w]
                        rfl
                      refine one_ (i := 15) (N := some 44) #[true, true, true, true, true, true, true, true, true, true, true, true, true, true, true, true, false] rfl rfl (one_of HT_.out (by kernel_rfl)) (by decide) (fun K hK => ?_)
                      refine Kd.R_append_step k42 (w0 := w) w.heap.size (by rfl) (.tmp 29) (.tmp 43) 22 42 (.agg #[(.int .i64 0), (.int .i64 0), (.string ⟨#[]⟩)]) 32 rfl Try.underlying22 info42 rfl (by decide) (by omega) u7 x7_1 (⟨wrap64 (((rd_T42 l1 x21_1).f0) + x8_1), wrap64 ((wrap64 (((rd_T42 l1 x21_1).f0) + x8_1)) + (((rd_T42 l1 x21_1).f2).size : Int)), a0.extract (((rd_T42 l1 x21_1).f0) : Int).toNat (((rd_T42 l1 x21_1).f1) : Int).toNat⟩ : S42) [.int .i64 (wrap64 (((rd_T42 l1 x21_1).f0) + x8_1)), .int .i64 (wrap64 ((wrap64 (((rd_T42 l1 x21_1).f0) + x8_1)) + (((rd_T42 l1 x21_1).f2).size : Int))), .string (a0.extract (((rd_T42 l1 x21_1).f0) : Int).toNat (((rd_T42 l1 x21_1).f1) : Int).toNat)] (fun k_ => k_ ≠ gb148) (fun _ => False) rfl rfl ?aP (fun _ hk => hk.elim) ?aF ?aO ?aB ?aS ?aL ?_
                      (case aP => exact k42_mkM _ _ _ (⟨wrap64 (((rd_T42 l1 x21_1).f0) + x8_1), wrap64 ((wrap64 (((rd_T42 l1 x21_1).f0) + x8_1)) + (((rd_T42 l1 x21_1).f2).size : Int)), a0.extract (((rd_T42 l1 x21_1).f0) : Int).toNat (((rd_T42 l1 x21_1).f1) : Int).toNat⟩ : S42))
                      (case aB => exact (by repeat (first | (with_reducible first | exact HB.out | apply below_alloc | apply pw_below_drewN | apply below_drew1 | refine below_set ?_ GE148.out) | exact HB.out)))
                      (case aF => exact (fun k_ hk => Kd.freshB (g := gb148) (o := .cells #[.int .i64 ((rd_T42 l1 x21_1).f0), .int .i64 ((rd_T42 l1 x21_1).f1), .string ((rd_T42 l1 x21_1).f2)] 42 (0, 0)) (by (with_reducible repeat (first | refine blk_drewN ?_ _ | refine blk_drew ?_ | refine blk_alloc ?_ _)); exact BK148.out) k_ hk))
                      (case aO => exact (by (with_reducible repeat (first | apply Kd.R_alloc | apply Kd.R_drewN | apply Kd.R_drew)); exact HO_7.out))
                      (case aS => exact (below_size (by repeat (first | (with_reducible first | exact HB.out | apply below_alloc | apply pw_below_drewN | apply below_drew1 | refine below_set ?_ GE148.out) | exact HB.out))))
                      (case aL => have := LMc12.out; omega)
                      intro v150 w18 ho hb hg hat
                      rw [← Ny149.out] at ho
                      have n0_ := Aside0.mk (blk_grown (g := gb148) (o := .cells #[.int .i64 ((rd_T42 l1 x21_1).f0), .int .i64 ((rd_T42 l1 x21_1).f1), .string ((rd_T42 l1 x21_1).f2)] 42 (0, 0)) (by (with_reducible repeat (first | refine blk_drewN ?_ _ | refine blk_drew ?_ | refine blk_alloc ?_ _)); exact BK148.out) hg (Kd.R_away HO_7.out (fun _ hk => hk)))
                      have n1_ := Aside0.mk (hb)
                      have n2_ := Aside0.mk (ho)
                      clear BK148
                      clear HB
                      clear HO_7
                      have BK148 := n0_
                      have HB := n1_
                      have HO151 := n2_
                      clear n0_ n1_ n2_
                      clear ho hb hg hat
                      refine hK.out _ _ ⟨(blk_cell BK148.out 0).trans rfl, (blk_cell BK148.out 1).trans rfl, (blk_cell BK148.out 2).trans rfl⟩ (fun hHeld => ?_)
                      clear hK K
                      refine norm_ (a' := ?_) ?_ ?_
                      rotate_left
                      · show Act.put _ (some 44) _ = _
                        simp only [Act.put, List.setIfInBounds_toArray, List.set_cons_zero, List.set_cons_succ, i64_w, i32_w]
                        rfl
                      refine pure_ (i := 16) (N := some 7) (v := ?_) (a' := ?_) #[true, true, true, true, true, true, true, true, true, true, true, true, true, true, true, true, true] rfl rfl (any_of HT_.out (by kernel_rfl)) (fun _ _ _ h => h) (Or.inl ⟨by rfl, ?_⟩) ?_ ?_
                      rotate_left
                      · intro w'
                        go_simp
                        with_reducible rfl
                      rotate_left
                      · simp only [Act.put, List.setIfInBounds_toArray, List.set_cons_zero, List.set_cons_succ, i64_w, i32_w]
                        rfl
                      refine done_ (done_of HT_.out (by kernel_rfl)) ?_
                      have hcz19_0 : w18.cell? ⟨gb148, 0, none⟩ = some (.int .i64 ((rd_T42 l1 x21_1).f0)) := (blk_cell BK148.out 0).trans rfl
                      have hcz19_1 : w18.cell? ⟨gb148, 1, none⟩ = some (.int .i64 ((rd_T42 l1 x21_1).f1)) := (blk_cell BK148.out 1).trans rfl
                      have hcz19_2 : w18.cell? ⟨gb148, 2, none⟩ = some (.string ((rd_T42 l1 x21_1).f2)) := (blk_cell BK148.out 2).trans rfl
                      have hfz19_0 := blk_frozen BK148.out 0
                      have hfz19_1 := blk_frozen BK148.out 1
                      have hfz19_2 := blk_frozen BK148.out 2
                      try go_wp2_with (first | ((with_reducible refine gate_callee (f := 34) rfl ?_); refine goesL_ (some 47) rfl rfl Try.func34 (by kernel_rfl) rfl #[.agg #[.int .i64 ((rd_T42 l1 x21_1).f0), .int .i64 ((rd_T42 l1 x21_1).f1), .string ((rd_T42 l1 x21_1).f2)]] rfl (by (try simp only [List.map_toArray, List.map_cons, List.map_nil]); first | done | rfl | (simp only [List.length_drop, List.length_take]; rfl)) ?_; (with_reducible refine (edits_grows.calls ((rd_T42 l1 x21_1).f0) ((rd_T42 l1 x21_1).f1) ((rd_T42 l1 x21_1).f2) t152 _ A13.out).mono ?_); rintro e w20 ⟨rfl, hb⟩; refine ⟨_, rfl, ?_⟩; have n0_ := Aside0.mk (Kd.R_below (by (with_reducible repeat (first | apply Kd.R_alloc | apply Kd.R_drewN | apply Kd.R_drew)); exact HO151.out) hb); have n1_ := Aside0.mk (blk_below (g := gb148) (o := .cells #[.int .i64 ((rd_T42 l1 x21_1).f0), .int .i64 ((rd_T42 l1 x21_1).f1), .string ((rd_T42 l1 x21_1).f2)] 42 (0, 0)) (by (with_reducible repeat (first | refine blk_drewN ?_ _ | refine blk_drew ?_ | refine blk_alloc ?_ _)); exact BK148.out) hb); have n2_ := Aside0.mk (below_step (by repeat (first | (with_reducible first | exact HB.out | apply below_alloc | apply pw_below_drewN | apply below_drew1 | refine below_set ?_ GE148.out) | exact HB.out)) hb); clear HO151; clear BK148; clear HB; have HO151 := n0_; have BK148 := n1_; have HB := n2_; clear n0_ n1_ n2_; (try clear hb); (try clear hb2); (try clear hk); (try clear hi)))
                      go_roundg k1
                      case measure => have := HK1.out; omega
                      case rel => exact ⟨(y149), (wrap64 (x8_1 + t152)), (wrap64 (x21_1 + 1)), (by first | rfl | (simp; done) | (simp [*]; done)), (by first | rfl | (simp; done) | (simp [*]; done)), H', ⟨by have := HK1.out; omega⟩, ⟨by (with_reducible repeat (first | apply Kd.R_alloc | apply Kd.R_drewN | apply Kd.R_drew)); exact Kd.R_mono HO151.out (fun _ hk => trivial)⟩, ⟨by repeat (first | (with_reducible first | exact HB.out | apply below_alloc | apply pw_below_drewN | apply below_drew1 | refine below_set ?_ GE148.out) | exact HB.out)⟩⟩
                    · rw [if_neg c12] at H
                      exact absurd H (by simp)
                  · rw [if_neg c11] at H
                    exact absurd H (by simp)
                · rw [if_neg c10] at H
                  exact absurd H (by simp)
              · rw [if_neg c9] at H
                exact absurd H (by simp)
            · rw [if_neg c8] at H
              exact absurd H (by simp)
          · rw [if_neg c7] at H
            exact absurd H (by simp)
        · rw [if_neg c6] at H
          have c6b0 : decide (x21_1 < (l1.length : Int)) = false := decide_eq_false c6
          clear c6
          simp only [Option.some.injEq, Prod.mk.injEq] at H
          obtain ⟨rfl, rfl⟩ := H
          go_wp2
          go_ret2
          exact ⟨_, by first | rfl | (simp [errW_none, errW_some] <;> rfl) | (simp [*, errW_none, errW_some] <;> rfl), by (with_reducible repeat (first | apply Kd.R_alloc | apply Kd.R_drewN | apply Kd.R_drew)); exact HO_7.out, by repeat (first | (with_reducible first | exact HB.out | apply below_alloc | apply pw_below_drewN | apply below_drew1) | exact HB.out)⟩
  · rw [if_neg c4] at H
    have c4b0 : (t146 == 0) = false := beq_eq_false_iff_ne.mpr c4
    have c4b1 : (t146 != 0) = true := bne_iff_ne.mpr c4
    simp only [Option.some.injEq, Prod.mk.injEq] at H
    obtain ⟨rfl, rfl⟩ := H
    go_enter Try.func19, Try.ntmps19
    go_wp2_with (first | ((with_reducible refine gate_callee (f := 32) rfl ?_); refine goesL_ (some 15) rfl rfl Try.func32 (by kernel_rfl) rfl #[.int .i64 (a0.size : Int), .slice A1 l1.length c1] rfl (by (try simp only [List.map_toArray, List.map_cons, List.map_nil]); first | done | rfl | (simp only [List.length_drop, List.length_take]; rfl)) ?_; (with_reducible refine (edits_valid.calls k (a0.size : Int) _ _ l1 t146 _ ?side1 ?side2 A3.out).mono ?_); (case side1 => repeat (first | exact HR1.out | (with_reducible refine Kd.C_alloc ?_ _) | (with_reducible refine Kd.C_drewN ?_ _) | (with_reducible refine Kd.C_drew ?_))); (case side2 => exact HC1.out); rintro e w21 ⟨rfl, hb⟩; refine ⟨_, rfl, ?_⟩; have n0_ := Aside0.mk (below_step (by repeat (first | (with_reducible first | exact HB.out | apply below_alloc | apply pw_below_drewN | apply below_drew1) | exact HB.out)) hb); clear HB; have HB := n0_; clear n0_; (try clear hb); (try clear hb2); (try clear hk); (try clear hi)))
    go_ret2
    exact ⟨_, by first | rfl | (simp [errW_none, errW_some] <;> rfl) | (simp [*, errW_none, errW_some] <;> rfl), by first | exact Kd.R_nil _ _ _ _ _ | exact Kd.N_nil _ _ _ _ _ | exact Kd.V_nil _ _ _ _ _ | exact Kd.Q_nil _ _ _ _ _ | exact Kd.S_nil _ _ _ _ _, by repeat (first | (with_reducible first | exact HB.out | apply below_alloc | apply pw_below_drewN | apply below_drew1) | exact HB.out)⟩

end Go.Proofs.Ytaihajmdngoeiaa.F

-- A text of this session's own program (wip/myprint.sh over a changed print tool): functions and their walks
namespace Go.Proofs.Ytaihajmdngoeiaa.F
open Go.RowKit Go.Proofs.YtaihajmdngoeiaaW.PrintWords Go.Proofs.YtaihajmdngoeiaaW.PrintLast Go.Proofs.YtaihajmdngoeiaaW.PrintMore
attribute [local go_sem] max2_int min2_int max_two min_two max_three min_three max_four min_four   -- for this text's walks alone
set_option linter.unusedVariables false
set_option linter.unusedSimpArgs false

/-! ### monikerref1_Invert: function 20 -/
def monikerref1_Invert.l0 : Nat → ByteArray → List (S42) → List (S42) → Int → Option ((List (S42)) × Int)
  | 0, _, _, _, _ => none
  | k + 1, x0, x1, x7, x8 => if x8 < (x1.length : Int) then (if 0 ≤ x8 then (if 0 ≤ ((rd_T42 x1 x8).f0) then (if ((rd_T42 x1 x8).f0) ≤ (x0.size : Int) then ((monikerref1_Whole.f ((rd_T42 x1 x8).f0)).bind fun t230 => (if x8 ≤ (x1.length : Int) then ((monikerref1_Done.f k t230 (x1.take (x8 : Int).toNat)).bind fun t237 => ((monikerref1_said.f k (x0.extract 0 (((rd_T42 x1 x8).f0) : Int).toNat) t237).bind fun t240 => (if ((rd_T42 x1 x8).f0) ≤ ((rd_T42 x1 x8).f1) then (if ((rd_T42 x1 x8).f1) ≤ (x0.size : Int) then (if x7.length < 4398046511104 then (monikerref1_Invert.l0 k x0 x1 (x7 ++ [(⟨(t240.size : Int), wrap64 ((t240.size : Int) + (((rd_T42 x1 x8).f2).size : Int)), x0.extract (((rd_T42 x1 x8).f0) : Int).toNat (((rd_T42 x1 x8).f1) : Int).toNat⟩ : S42)]) (wrap64 (x8 + 1))) else (none)) else (none)) else (none)))) else (none))) else (none)) else (none)) else (none)) else (some (x7, 0))
def monikerref1_Invert.f (k : Nat) (a0 : ByteArray) (l1 : List (S42)) : Option ((List (S42)) × Int) := (monikerref1_valid.f k (a0.size : Int) l1).bind fun t227 => (if t227 = 0 then (monikerref1_Invert.l0 k a0 l1 ([] : List (S42)) 0) else (some (([] : List (S42)), t227)))
theorem monikerref1_Invert.mono_l : ∀ k, (∀ y0 y1 y2 y3, LeO (monikerref1_Invert.l0 k y0 y1 y2 y3) (monikerref1_Invert.l0 (k + 1) y0 y1 y2 y3))
  | 0 => fun _ _ _ _ r h => by simp [monikerref1_Invert.l0] at h
  | k + 1 => by
    have ih0 := monikerref1_Invert.mono_l k
    · intro y0 y1 y2 y3
      unfold monikerref1_Invert.l0
      repeat' first
      | (with_reducible exact ih0 _ _ _ _)
      | (with_reducible exact monikerref1_Done.mono _ _ _)
      | (with_reducible exact monikerref1_said.mono _ _ _)
      | (with_reducible exact monikerref1_valid.mono _ _ _)
      | (with_reducible exact LeO.refl _)
      | (with_reducible exact LeO.none _)
      | (with_reducible refine LeO.ite ?_ ?_)
      | (with_reducible refine LeO.bind ?_ (fun _ => ?_))
      | exact ih0 _ _ _ _
      | exact monikerref1_Done.mono _ _ _
      | exact monikerref1_said.mono _ _ _
      | exact monikerref1_valid.mono _ _ _
      | exact LeO.none _
      | refine LeO.ite ?_ ?_
      | refine LeO.bind ?_ (fun _ => ?_)
theorem monikerref1_Invert.mono : ∀ a0 a1 k, LeO (monikerref1_Invert.f k a0 a1) (monikerref1_Invert.f (k + 1) a0 a1) := by
  intro a0 a1 k
  have ih0 := monikerref1_Invert.mono_l k
  unfold monikerref1_Invert.f
  repeat' first
      | (with_reducible exact ih0 _ _ _ _)
      | (with_reducible exact monikerref1_Done.mono _ _ _)
      | (with_reducible exact monikerref1_said.mono _ _ _)
      | (with_reducible exact monikerref1_valid.mono _ _ _)
      | (with_reducible exact LeO.refl _)
      | (with_reducible exact LeO.none _)
      | (with_reducible refine LeO.ite ?_ ?_)
      | (with_reducible refine LeO.bind ?_ (fun _ => ?_))
      | exact ih0 _ _ _ _
      | exact monikerref1_Done.mono _ _ _
      | exact monikerref1_said.mono _ _ _
      | exact monikerref1_valid.mono _ _ _
      | exact LeO.none _
      | refine LeO.ite ?_ ?_
      | refine LeO.bind ?_ (fun _ => ?_)
def monikerref1_Invert.T8 : Bool × List (List Nat × List Nat) := (true, [([], []), ([], []), ([], []), ([1, 2], [1, 2]), ([3], [3]), ([4], [4]), ([0, 5], [0, 5]), ([], []), ([], []), ([7, 8], [7, 8]), ([9], [9]), ([10], [10]), ([11], [11]), ([], []), ([], []), ([13, 14], [13, 14]), ([12, 15, 12], [12, 15]), ([6, 16, 16], [6, 16]), ([17, 17, 0, 1, 2, 3, 4, 5, 6, 7, 8, 9, 10, 11, 12, 13, 14, 15, 16, 17], [17])])
def monikerref1_Invert.B8 : List Nat := [0, 0, 0, 6, 14, 30, 63, 0, 0, 384, 896, 1920, 3968, 0, 0, 24576, 65408, 131071, 262143]
theorem monikerref1_Invert.tab8 : rtab .any (opsOf Try.f20 8) = monikerref1_Invert.T8 := by kernel_rfl
theorem monikerref1_Invert.bits8 : waitsOk monikerref1_Invert.T8.2 monikerref1_Invert.B8 = true := by kernel_rfl
def monikerref1_Invert.T9 : Bool × List (List Nat × List Nat) := (true, [([], []), ([], []), ([1], [1]), ([], []), ([3], [3]), ([], []), ([], []), ([5, 6], [5, 6]), ([7], [7]), ([8], [8]), ([9], [9]), ([4, 10], [4, 10]), ([], []), ([], []), ([], []), ([13, 14], [13, 14]), ([15], [15]), ([16], [16]), ([], []), ([], []), ([18, 19], [18, 19]), ([20], [20]), ([21], [21]), ([12, 17, 22], [12, 17, 22]), ([2, 11, 23], [2, 11, 23]), ([24], [24]), ([0, 25], [0, 25]), ([26, 26, 0, 1, 2, 3, 4, 5, 6, 7, 8, 9, 10, 11, 12, 13, 14, 15, 16, 17, 18, 19, 20, 21, 22, 23, 24, 25, 26], [0, 26])])
def monikerref1_Invert.B9 : List Nat := [0, 0, 2, 0, 8, 0, 0, 96, 224, 480, 992, 2040, 0, 0, 0, 24576, 57344, 122880, 0, 0, 786432, 1835008, 3932160, 8384512, 16777214, 33554430, 67108863, 134217727]
theorem monikerref1_Invert.tab9 : rtab .any (opsOf Try.f20 9) = monikerref1_Invert.T9 := by kernel_rfl
theorem monikerref1_Invert.bits9 : waitsOk monikerref1_Invert.T9.2 monikerref1_Invert.B9 = true := by kernel_rfl
set_option maxHeartbeats 8000000 in
set_option maxRecDepth 100000 in
theorem monikerref1_Invert.calls (k : Nat) (a0 : ByteArray) (A1 : Option Addr) (c1 : Nat) (l1 : List (S42)) (r1 : List (S42)) (r2 : Int) (w : World) (hr1 : Kd.C k42 w A1 l1.length l1) (hc1 : l1.length ≤ c1) (h : monikerref1_Invert.f k a0 l1 = some (r1, r2)) :
    Calls Try.prog 20 #[.string a0, .slice A1 l1.length c1] w fun e w' => ∃ v0_ : Value, e = .returned (.tuple #[v0_, .int .i64 r2]) ∧ Kd.R k42 42 w' w.heap.size (fun _ => True) v0_ r1 ∧ Below w.heap.size w w' := by
  have hu42 := Try.underlying42
  have HR1 := Aside0.mk hr1
  have HC1 := Aside0.mk hc1
  clear hr1 hc1
  have HB := Aside0.mk (Below.refl w.heap.size w)
  have H : ((monikerref1_valid.f k (a0.size : Int) l1).bind fun t227 => (if t227 = 0 then (monikerref1_Invert.l0 k a0 l1 ([] : List (S42)) 0) else (some (([] : List (S42)), t227)))) = some (r1, r2) := h
  clear h
  replace H := Option.bind_eq_some_iff.mp H
  obtain ⟨t227, A30, H⟩ := H
  replace H : (if t227 = 0 then (monikerref1_Invert.l0 k a0 l1 ([] : List (S42)) 0) else (some (([] : List (S42)), t227))) = some (r1, r2) := H
  have A3 := Aside0.mk A30
  clear A30
  by_cases c4 : t227 = 0
  · rw [if_pos c4] at H
    have c4b0 : (t227 == 0) = true := beq_iff_eq.mpr c4
    have c4b1 : (t227 != 0) = false := bne_eq_false_iff_eq.mpr c4
    clear c4
    have H' := Aside0.mk H
    clear H
    go_enter Try.func20, Try.ntmps20
    go_wp2_with (first | ((with_reducible refine gate_callee (f := 33) rfl ?_); refine goesL_ (some 13) rfl rfl Try.func33 (by kernel_rfl) rfl #[.int .i64 (a0.size : Int), .slice A1 l1.length c1] rfl (by (try simp only [List.map_toArray, List.map_cons, List.map_nil]); first | done | rfl | (simp only [List.length_drop, List.length_take]; rfl)) ?_; (with_reducible refine (monikerref1_valid.calls k (a0.size : Int) _ _ l1 t227 _ ?side1 ?side2 A3.out).mono ?_); (case side1 => repeat (first | exact HR1.out | (with_reducible refine Kd.C_alloc ?_ _) | (with_reducible refine Kd.C_drewN ?_ _) | (with_reducible refine Kd.C_drew ?_))); (case side2 => exact HC1.out); rintro e w5 ⟨rfl, hb⟩; refine ⟨_, rfl, ?_⟩; have n0_ := Aside0.mk (below_step (by repeat (first | (with_reducible first | exact HB.out | apply below_alloc | apply pw_below_drewN | apply below_drew1) | exact HB.out)) hb); clear HB; have HB := n0_; clear n0_; (try clear hb); (try clear hb2); (try clear hk); (try clear hi)))
    go_loopg [7, 8] k (fun kq v7 v8 w' => ∃ (x7_1 : List (S42)) (x8_1 : Int), v8 = .int .i64 x8_1 ∧ Aside0 (monikerref1_Invert.l0 kq a0 l1 x7_1 x8_1 = some (r1, r2)) ∧ Aside0 (kq ≤ k) ∧ Aside0 (Kd.R k42 42 w' w.heap.size (fun _ => True) v7 x7_1) ∧ Aside0 (Below w.heap.size w w'))
    case atStart => exact ⟨(([] : List (S42))), (0), (by first | rfl | (simp; done) | (simp [*]; done)), H', ⟨Nat.le_refl _⟩, ⟨by first | exact Kd.R_nil _ _ _ _ _ | exact Kd.N_nil _ _ _ _ _ | exact Kd.V_nil _ _ _ _ _ | exact Kd.Q_nil _ _ _ _ _ | exact Kd.S_nil _ _ _ _ _⟩, ⟨by repeat (first | (with_reducible first | exact HB.out | apply below_alloc | apply pw_below_drewN | apply below_drew1) | exact HB.out)⟩⟩
    case round =>
      clear H'
      try clear c1
      try clear c2
      try clear p2
      try clear c3
      try clear c4
      try clear c4b0
      try clear c4b1
      obtain ⟨x7_1, x8_1, rfl, HA, HK1, HO_7, HB⟩ := hrel
      cases gk with
      | zero => exact absurd HA.out (by simp [monikerref1_Invert.l0])
      | succ k1 =>
        have H := HA.out
        clear HA
        simp only [monikerref1_Invert.l0] at H
        by_cases c6 : x8_1 < (l1.length : Int)
        · rw [if_pos c6] at H
          have c6b0 : decide (x8_1 < (l1.length : Int)) = true := decide_eq_true c6
          clear c6
          by_cases c7 : 0 ≤ x8_1
          · rw [if_pos c7] at H
            have c7b0 : decide (0 ≤ x8_1) = true := decide_eq_true c7
            clear c7
            by_cases c8 : 0 ≤ ((rd_T42 l1 x8_1).f0)
            · rw [if_pos c8] at H
              have c8b0 := eq_true c8
              have c8b1 : decide (0 ≤ ((rd_T42 l1 x8_1).f0)) = true := decide_eq_true c8
              clear c8
              by_cases c9 : ((rd_T42 l1 x8_1).f0) ≤ (a0.size : Int)
              · rw [if_pos c9] at H
                have c9b0 := eq_true c9
                have c9b1 : decide (((rd_T42 l1 x8_1).f0) ≤ (a0.size : Int)) = true := decide_eq_true c9
                clear c9
                replace H := Option.bind_eq_some_iff.mp H
                obtain ⟨t230, A100, H⟩ := H
                replace H : (if x8_1 ≤ (l1.length : Int) then ((monikerref1_Done.f k1 t230 (l1.take (x8_1 : Int).toNat)).bind fun t237 => ((monikerref1_said.f k1 (a0.extract 0 (((rd_T42 l1 x8_1).f0) : Int).toNat) t237).bind fun t240 => (if ((rd_T42 l1 x8_1).f0) ≤ ((rd_T42 l1 x8_1).f1) then (if ((rd_T42 l1 x8_1).f1) ≤ (a0.size : Int) then (if x7_1.length < 4398046511104 then (monikerref1_Invert.l0 k1 a0 l1 (x7_1 ++ [(⟨(t240.size : Int), wrap64 ((t240.size : Int) + (((rd_T42 l1 x8_1).f2).size : Int)), a0.extract (((rd_T42 l1 x8_1).f0) : Int).toNat (((rd_T42 l1 x8_1).f1) : Int).toNat⟩ : S42)]) (wrap64 (x8_1 + 1))) else (none)) else (none)) else (none)))) else (none)) = some (r1, r2) := H
                have A10 := Aside0.mk A100
                clear A100
                have c11b0 := eq_true (of_decide_eq_true (by first | (with_reducible assumption) | assumption) : 0 ≤ x8_1)
                by_cases c12 : x8_1 ≤ (l1.length : Int)
                · rw [if_pos c12] at H
                  have c12b0 := eq_true c12
                  have c12b1 : decide (x8_1 ≤ (l1.length : Int)) = true := decide_eq_true c12
                  clear c12
                  obtain ⟨y233, hy233⟩ : ∃ y_ : List (S42), y_ = (l1.take (x8_1 : Int).toNat) := ⟨_, rfl⟩
                  replace H : ((monikerref1_Done.f k1 t230 y233).bind fun t237 => ((monikerref1_said.f k1 (a0.extract 0 (((rd_T42 l1 x8_1).f0) : Int).toNat) t237).bind fun t240 => (if ((rd_T42 l1 x8_1).f0) ≤ ((rd_T42 l1 x8_1).f1) then (if ((rd_T42 l1 x8_1).f1) ≤ (a0.size : Int) then (if x7_1.length < 4398046511104 then (monikerref1_Invert.l0 k1 a0 l1 (x7_1 ++ [(⟨(t240.size : Int), wrap64 ((t240.size : Int) + (((rd_T42 l1 x8_1).f2).size : Int)), a0.extract (((rd_T42 l1 x8_1).f0) : Int).toNat (((rd_T42 l1 x8_1).f1) : Int).toNat⟩ : S42)]) (wrap64 (x8_1 + 1))) else (none)) else (none)) else (none)))) = some (r1, r2) := by first | (rw [hy233]; with_reducible exact H) | (have H2_ := (Option.bind_some _ _).symm.trans H; rw [hy233]; with_reducible exact H2_) | (have H2_ := (Option.bind_some _ _).symm.trans H; with_reducible exact H2_) | with_reducible exact H | (rw [hy233]; exact H) | exact H
                  have Ny233 := Aside0.mk hy233
                  clear hy233
                  replace H := Option.bind_eq_some_iff.mp H
                  obtain ⟨t237, A130, H⟩ := H
                  replace H : ((monikerref1_said.f k1 (a0.extract 0 (((rd_T42 l1 x8_1).f0) : Int).toNat) t237).bind fun t240 => (if ((rd_T42 l1 x8_1).f0) ≤ ((rd_T42 l1 x8_1).f1) then (if ((rd_T42 l1 x8_1).f1) ≤ (a0.size : Int) then (if x7_1.length < 4398046511104 then (monikerref1_Invert.l0 k1 a0 l1 (x7_1 ++ [(⟨(t240.size : Int), wrap64 ((t240.size : Int) + (((rd_T42 l1 x8_1).f2).size : Int)), a0.extract (((rd_T42 l1 x8_1).f0) : Int).toNat (((rd_T42 l1 x8_1).f1) : Int).toNat⟩ : S42)]) (wrap64 (x8_1 + 1))) else (none)) else (none)) else (none))) = some (r1, r2) := H
                  have A13 := Aside0.mk A130
                  clear A130
                  replace H := Option.bind_eq_some_iff.mp H
                  obtain ⟨t240, A140, H⟩ := H
                  replace H : (if ((rd_T42 l1 x8_1).f0) ≤ ((rd_T42 l1 x8_1).f1) then (if ((rd_T42 l1 x8_1).f1) ≤ (a0.size : Int) then (if x7_1.length < 4398046511104 then (monikerref1_Invert.l0 k1 a0 l1 (x7_1 ++ [(⟨(t240.size : Int), wrap64 ((t240.size : Int) + (((rd_T42 l1 x8_1).f2).size : Int)), a0.extract (((rd_T42 l1 x8_1).f0) : Int).toNat (((rd_T42 l1 x8_1).f1) : Int).toNat⟩ : S42)]) (wrap64 (x8_1 + 1))) else (none)) else (none)) else (none)) = some (r1, r2) := H
                  have A14 := Aside0.mk A140
                  clear A140
                  have c15b0 := eq_true (of_decide_eq_true (by first | (with_reducible assumption) | assumption) : 0 ≤ ((rd_T42 l1 x8_1).f0))
                  by_cases c16 : ((rd_T42 l1 x8_1).f0) ≤ ((rd_T42 l1 x8_1).f1)
                  · rw [if_pos c16] at H
                    have c16b0 := eq_true c16
                    have c16b1 : decide (((rd_T42 l1 x8_1).f0) ≤ ((rd_T42 l1 x8_1).f1)) = true := decide_eq_true c16
                    clear c16
                    by_cases c17 : ((rd_T42 l1 x8_1).f1) ≤ (a0.size : Int)
                    · rw [if_pos c17] at H
                      have c17b0 := eq_true c17
                      have c17b1 : decide (((rd_T42 l1 x8_1).f1) ≤ (a0.size : Int)) = true := decide_eq_true c17
                      clear c17
                      by_cases c18 : x7_1.length < 4398046511104
                      · rw [if_pos c18] at H
                        have LMc18 := Aside0.mk c18
                        clear c18
                        obtain ⟨y244, hy244⟩ : ∃ y_ : List (S42), y_ = (x7_1 ++ [(⟨(t240.size : Int), wrap64 ((t240.size : Int) + (((rd_T42 l1 x8_1).f2).size : Int)), a0.extract (((rd_T42 l1 x8_1).f0) : Int).toNat (((rd_T42 l1 x8_1).f1) : Int).toNat⟩ : S42)]) := ⟨_, rfl⟩
                        replace H : (monikerref1_Invert.l0 k1 a0 l1 y244 (wrap64 (x8_1 + 1))) = some (r1, r2) := by first | (rw [hy244]; with_reducible exact H) | (have H2_ := (Option.bind_some _ _).symm.trans H; rw [hy244]; with_reducible exact H2_) | (have H2_ := (Option.bind_some _ _).symm.trans H; with_reducible exact H2_) | with_reducible exact H | (rw [hy244]; exact H) | exact H
                        have Ny244 := Aside0.mk hy244
                        clear hy244
                        have H' := Aside0.mk H
                        clear H
                        try go_wp2
                        have n0_ := Aside0.mk (Kd.R_drew HO_7.out)
                        have n1_ := Aside0.mk (below_drew1 HB.out)
                        clear HO_7
                        clear HB
                        have HO_7 := n0_
                        have HB := n1_
                        clear n0_ n1_
                        have p228 : 0 ≤ (x8_1 : Int) := of_decide_eq_true (by first | (with_reducible assumption) | assumption)
                        have q228 : x8_1 < (l1.length : Int) := of_decide_eq_true (by first | (with_reducible assumption) | assumption)
                        obtain ⟨ad228, e228, hx228_0, hx228_1, hx228_2⟩ := at_T42 HR1.out x8_1 p228 q228
                        have hw228_2 := hx228_2
                        have hw228_1 := hx228_1
                        have hw228_0 := hx228_0
                        cases e228
                        replace hx228_0 := (HB.out.cell (World.block_lt_of_cell? w _ hx228_0)).trans hx228_0
                        replace hx228_1 := (HB.out.cell (World.block_lt_of_cell? w _ hx228_1)).trans hx228_1
                        replace hx228_2 := (HB.out.cell (World.block_lt_of_cell? w _ hx228_2)).trans hx228_2
                        replace p228 := eq_true p228
                        replace q228 := eq_true q228
                        have p229 : 0 ≤ (x8_1 : Int) := of_decide_eq_true (by first | (with_reducible assumption) | assumption)
                        have q229 : x8_1 < (l1.length : Int) := of_decide_eq_true (by first | (with_reducible assumption) | assumption)
                        obtain ⟨ad229, e229, hx229_0, hx229_1, hx229_2⟩ := at_T42 HR1.out x8_1 p229 q229
                        have hw229_2 := hx229_2
                        have hw229_1 := hx229_1
                        have hw229_0 := hx229_0
                        obtain rfl : ad228 = ad229 := (by injection e229)
                        replace hx229_0 := (HB.out.cell (World.block_lt_of_cell? w _ hx229_0)).trans hx229_0
                        replace hx229_1 := (HB.out.cell (World.block_lt_of_cell? w _ hx229_1)).trans hx229_1
                        replace hx229_2 := (HB.out.cell (World.block_lt_of_cell? w _ hx229_2)).trans hx229_2
                        replace p229 := eq_true p229
                        replace q229 := eq_true q229
                        have q20 : (x8_1 : Int) ≤ ((l1.length : Int) : Int) := of_decide_eq_true (by first | (with_reducible assumption) | assumption)
                        obtain ⟨i020, hi020, _, hsz20, _⟩ := info_parts info42
                        have hroom20 : l1.length ≤ c1 := HC1.out
                        have hC20 : Kd.C k42 _ (some ad228) l1.length l1 := HR1.out
                        have hcut20 := cut_to (P := Try.prog) 22 42 .i64 Try.underlying22 hi020 (some ad228) l1.length c1 x8_1 (of_decide_eq_true (by first | (with_reducible assumption) | assumption)) q20 hroom20
                        have hr20 := Kd.C_take (m := (x8_1 : Int).toNat) hC20 (by omega)
                        have hy20 : y233.length = (x8_1 : Int).toNat := (by rw [Ny233.out, List.length_take]; omega)
                        rw [← Ny233.out] at hr20
                        rw [← hy20] at hcut20
                        have HR236 := Aside0.mk hr20
                        have HC236 := Aside0.mk (show y233.length ≤ c1 from by omega)
                        clear hr20 hC20 hroom20 hi020 hsz20
                        have KY20 := Aside0.mk hy20
                        clear hy20
                        replace q20 := eq_true q20
                        refine start_ (n := 19) (S := fun w' => w'.cell? (ad228.add ((x8_1).toNat * 3)) = some (.int .i64 ((rd_T42 l1 x8_1).f0)) ∧ w'.cell? ⟨(ad228.add ((x8_1).toNat * 3)).block, (ad228.add ((x8_1).toNat * 3)).off + 1, none⟩ = some (.int .i64 ((rd_T42 l1 x8_1).f1)) ∧ w'.cell? ⟨(ad228.add ((x8_1).toNat * 3)).block, (ad228.add ((x8_1).toNat * 3)).off + 2, none⟩ = some (.string ((rd_T42 l1 x8_1).f2)) ∧ w'.cell? (ad228.add ((x8_1).toNat * 3)) = some (.int .i64 ((rd_T42 l1 x8_1).f0)) ∧ w'.cell? ⟨(ad228.add ((x8_1).toNat * 3)).block, (ad228.add ((x8_1).toNat * 3)).off + 1, none⟩ = some (.int .i64 ((rd_T42 l1 x8_1).f1)) ∧ w'.cell? ⟨(ad228.add ((x8_1).toNat * 3)).block, (ad228.add ((x8_1).toNat * 3)).off + 2, none⟩ = some (.string ((rd_T42 l1 x8_1).f2))) (ds := []) #[false, false, false, false, false, false, false, false, false, false, false, false, false, false, false, false, false, false, false] (by kernel_rfl) rfl rfl ⟨((HB.out.cell (World.block_lt_of_cell? w _ hw228_0)).trans hw228_0), ((HB.out.cell (World.block_lt_of_cell? w _ hw228_1)).trans hw228_1), ((HB.out.cell (World.block_lt_of_cell? w _ hw228_2)).trans hw228_2), ((HB.out.cell (World.block_lt_of_cell? w _ hw229_0)).trans hw229_0), ((HB.out.cell (World.block_lt_of_cell? w _ hw229_1)).trans hw229_1), ((HB.out.cell (World.block_lt_of_cell? w _ hw229_2)).trans hw229_2)⟩ (fun hHeld => ?_); refine with_tabW monikerref1_Invert.tab8 monikerref1_Invert.bits8 (fun HT_ HW_ => ?_)
                        generalize wr.drew = w19 at HO_7 HB HR236 hx228_0 hx228_1 hx228_2 hx229_0 hx229_1 hx229_2 hHeld ⊢
                        refine pure_ (i := 0) (N := some 23) (v := ?_) (a' := ?_) #[true, false, false, false, false, false, false, false, false, false, false, false, false, false, false, false, false, false, false] rfl rfl (any_of HT_.out (by kernel_rfl)) (fun _ _ _ h => h) (Or.inl ⟨by rfl, ?_⟩) ?_ ?_
                        rotate_left
                        · intro w'
                          go_simp
                          with_reducible rfl
                        rotate_left
                        · simp only [Act.put, List.setIfInBounds_toArray, List.set_cons_zero, List.set_cons_succ, i64_w, i32_w]
                          rfl
                        refine pure_ (i := 1) (N := some 24) (v := ?_) (a' := ?_) #[true, true, false, false, false, false, false, false, false, false, false, false, false, false, false, false, false, false, false] rfl rfl (any_of HT_.out (by kernel_rfl)) (fun _ _ _ h => h) (Or.inl ⟨by rfl, ?_⟩) ?_ ?_
                        rotate_left
                        · intro w'
                          go_simp
                          with_reducible rfl
                        rotate_left
                        · simp only [Act.put, List.setIfInBounds_toArray, List.set_cons_zero, List.set_cons_succ, i64_w, i32_w]
                          rfl
                        refine pure_ (i := 2) (N := some 25) (v := ?_) (a' := ?_) #[true, true, true, false, false, false, false, false, false, false, false, false, false, false, false, false, false, false, false] rfl rfl (any_of HT_.out (by kernel_rfl)) (fun _ _ _ h => h) (Or.inl ⟨by rfl, ?_⟩) ?_ ?_
                        rotate_left
                        · intro w'
                          go_simp
                          with_reducible rfl
                        rotate_left
                        · simp only [Act.put, List.setIfInBounds_toArray, List.set_cons_zero, List.set_cons_succ, i64_w, i32_w]
                          rfl
                        refine pure_ (i := 3) (N := some 26) (v := ?_) (a' := ?_) #[true, true, true, true, false, false, false, false, false, false, false, false, false, false, false, false, false, false, false] rfl rfl (any_of HT_.out (by kernel_rfl)) (fun _ _ _ h => h) (Or.inl ⟨by rfl, ?_⟩) ?_ ?_
                        rotate_left
                        · intro w'
                          go_simp
                          with_reducible rfl
                        rotate_left
                        · simp only [Act.put, List.setIfInBounds_toArray, List.set_cons_zero, List.set_cons_succ, i64_w, i32_w]
                          rfl
                        refine pure_ (i := 4) (N := some 27) (v := ?_) (a' := ?_) #[true, true, true, true, true, false, false, false, false, false, false, false, false, false, false, false, false, false, false] rfl rfl (any_of HT_.out (by kernel_rfl)) (fun _ _ _ h => h) (Or.inl ⟨by rfl, ?_⟩) ?_ ?_
                        rotate_left
                        · intro w'
                          go_simp
                          with_reducible rfl
                        rotate_left
                        · simp only [Act.put, List.setIfInBounds_toArray, List.set_cons_zero, List.set_cons_succ, i64_w, i32_w]
                          rfl
                        refine pure_ (i := 7) (N := some 30) (v := ?_) (a' := ?_) #[true, true, true, true, true, false, false, true, false, false, false, false, false, false, false, false, false, false, false] rfl rfl (any_of HT_.out (by kernel_rfl)) (fun _ _ _ h => h) (Or.inl ⟨by rfl, ?_⟩) ?_ ?_
                        rotate_left
                        · intro w'
                          go_simp
                          with_reducible rfl
                        rotate_left
                        · simp only [Act.put, List.setIfInBounds_toArray, List.set_cons_zero, List.set_cons_succ, i64_w, i32_w]
                          rfl
                        refine pure_ (i := 8) (N := some 31) (v := ?_) (a' := ?_) #[true, true, true, true, true, false, false, true, true, false, false, false, false, false, false, false, false, false, false] rfl rfl (any_of HT_.out (by kernel_rfl)) (fun _ _ _ h => h) (Or.inl ⟨by rfl, ?_⟩) ?_ ?_
                        rotate_left
                        · intro w'
                          go_simp
                          with_reducible rfl
                        rotate_left
                        · simp only [Act.put, List.setIfInBounds_toArray, List.set_cons_zero, List.set_cons_succ, i64_w, i32_w]
                          rfl
                        refine pure_ (i := 9) (N := some 32) (v := ?_) (a' := ?_) #[true, true, true, true, true, false, false, true, true, true, false, false, false, false, false, false, false, false, false] rfl rfl (any_of HT_.out (by kernel_rfl)) (fun _ _ _ h => h) (Or.inl ⟨by rfl, ?_⟩) ?_ ?_
                        rotate_left
                        · intro w'
                          go_simp
                          with_reducible rfl
                        rotate_left
                        · simp only [Act.put, List.setIfInBounds_toArray, List.set_cons_zero, List.set_cons_succ, i64_w, i32_w]
                          rfl
                        refine pure_ (i := 10) (N := some 33) (v := ?_) (a' := ?_) #[true, true, true, true, true, false, false, true, true, true, true, false, false, false, false, false, false, false, false] rfl rfl (any_of HT_.out (by kernel_rfl)) (fun _ _ _ h => h) (Or.inl ⟨by rfl, ?_⟩) ?_ ?_
                        rotate_left
                        · intro w'
                          go_simp
                          with_reducible rfl
                        rotate_left
                        · simp only [Act.put, List.setIfInBounds_toArray, List.set_cons_zero, List.set_cons_succ, i64_w, i32_w]
                          rfl
                        refine pure_ (i := 13) (N := some 36) (v := ?_) (a' := ?_) #[true, true, true, true, true, false, false, true, true, true, true, false, false, true, false, false, false, false, false] rfl rfl (any_of HT_.out (by kernel_rfl)) (fun _ _ _ h => h) (Or.inl ⟨by rfl, ?_⟩) ?_ ?_
                        rotate_left
                        · intro w'
                          go_simp
                          with_reducible rfl
                        rotate_left
                        · simp only [Act.put, List.setIfInBounds_toArray, List.set_cons_zero, List.set_cons_succ, i64_w, i32_w]
                          rfl
                        refine pure_ (i := 14) (N := some 37) (v := ?_) (a' := ?_) #[true, true, true, true, true, false, false, true, true, true, true, false, false, true, true, false, false, false, false] rfl rfl (any_of HT_.out (by kernel_rfl)) (fun _ _ _ h => h) (Or.inl ⟨by rfl, ?_⟩) ?_ ?_
                        rotate_left
                        · intro w'
                          go_simp
                          with_reducible rfl
                        rotate_left
                        · simp only [Act.put, List.setIfInBounds_toArray, List.set_cons_zero, List.set_cons_succ, i64_w, i32_w]
                          rfl
                        refine pure_ (i := 15) (N := some 38) (v := ?_) (a' := ?_) #[true, true, true, true, true, false, false, true, true, true, true, false, false, true, true, true, false, false, false] rfl rfl (any_of HT_.out (by kernel_rfl)) (fun _ _ _ h => h) (Or.inl ⟨by rfl, ?_⟩) ?_ ?_
                        rotate_left
                        · intro w'
                          go_simp
                          with_reducible rfl
                        rotate_left
                        · simp only [Act.put, List.setIfInBounds_toArray, List.set_cons_zero, List.set_cons_succ, i64_w, i32_w]
                          rfl
                        refine take_ (i := 5) (N := some 28) (v := ?_) (a' := ?_) #[true, true, true, true, true, true, false, true, true, true, true, false, false, true, true, true, false, false, false] rfl rfl (take_ofW HT_.out HW_.out (by kernel_rfl)) (fun _ _ _ h => h) (Or.inl ⟨by rfl, ?_⟩) hHeld ?_ ?_
                        rotate_left
                        · rintro w' ⟨s0, s1, s2, s3, s4, s5⟩
                          go_simp
                          with_reducible rfl
                        rotate_left
                        · simp only [Act.put, List.setIfInBounds_toArray, List.set_cons_zero, List.set_cons_succ, i64_w, i32_w]
                          rfl
                        refine pure_ (i := 6) (N := some 29) (v := ?_) (a' := ?_) #[true, true, true, true, true, true, true, true, true, true, true, false, false, true, true, true, false, false, false] rfl rfl (any_of HT_.out (by kernel_rfl)) (fun _ _ _ h => h) (Or.inl ⟨by rfl, ?_⟩) ?_ ?_
                        rotate_left
                        · intro w'
                          go_simp
                          with_reducible rfl
                        rotate_left
                        · simp only [Act.put, List.setIfInBounds_toArray, List.set_cons_zero, List.set_cons_succ, i64_w, i32_w]
                          rfl
                        refine take_ (i := 11) (N := some 34) (v := ?_) (a' := ?_) #[true, true, true, true, true, true, true, true, true, true, true, true, false, true, true, true, false, false, false] rfl rfl (take_ofW HT_.out HW_.out (by kernel_rfl)) (fun _ _ _ h => h) (Or.inl ⟨by rfl, ?_⟩) hHeld ?_ ?_
                        rotate_left
                        · rintro w' ⟨s0, s1, s2, s3, s4, s5⟩
                          go_simp
                          with_reducible rfl
                        rotate_left
                        · simp only [Act.put, List.setIfInBounds_toArray, List.set_cons_zero, List.set_cons_succ, i64_w, i32_w]
                          rfl
                        refine one_ (i := 12) (N := some 35) #[true, true, true, true, true, true, true, true, true, true, true, true, true, true, true, true, false, false, false] rfl rfl (one_of HT_.out (by kernel_rfl)) (by decide) (fun K hK => ?_)
                        refine goes_ Try.func37 (by kernel_rfl) rfl #[.int .i64 ((rd_T42 l1 x8_1).f0)] (by rfl) rfl rfl (by (try simp only [List.map_toArray, List.map_cons, List.map_nil]); first | done | rfl | (simp only [List.length_drop, List.length_take]; rfl)) ?_
                        with_reducible refine (monikerref1_Whole.calls ((rd_T42 l1 x8_1).f0) t230 _ A10.out).mono ?_
                        rintro e w21 ⟨v231, rfl, ho0, hb⟩
                        refine ⟨_, rfl, ?_⟩
                        have n0_ := Aside0.mk (Kd.R_below (by (with_reducible repeat (first | apply Kd.R_alloc | apply Kd.R_drewN | apply Kd.R_drew)); exact HO_7.out) hb)
                        have n1_ := Aside0.mk (Kd.R_lower ho0 (below_size (by repeat (first | (with_reducible first | exact HB.out | apply below_alloc | apply pw_below_drewN | apply below_drew1) | exact HB.out))))
                        have n2_ := Aside0.mk (below_step (by repeat (first | (with_reducible first | exact HB.out | apply below_alloc | apply pw_below_drewN | apply below_drew1) | exact HB.out)) hb)
                        clear HO_7
                        clear HB
                        have HO_7 := n0_
                        have HO232 := n1_
                        have HB := n2_
                        clear n0_ n1_ n2_
                        (try clear hb)
                        (try clear hb2)
                        (try clear hk)
                        (try clear hi)
                        (try clear ho0)
                        obtain ⟨Ao22, co22, eo22⟩ := Kd.R_slice HO232.out
                        (first | subst eo22 | (injection eo22 with f1_ f2_ f3_; have f4_ := f1_.symm; have f5_ := f3_.symm; clear f1_ f2_ f3_; subst f4_; subst f5_))
                        refine hK.out _ _ ⟨((HB.out.cell (World.block_lt_of_cell? w _ hw228_0)).trans hw228_0), ((HB.out.cell (World.block_lt_of_cell? w _ hw228_1)).trans hw228_1), ((HB.out.cell (World.block_lt_of_cell? w _ hw228_2)).trans hw228_2), ((HB.out.cell (World.block_lt_of_cell? w _ hw229_0)).trans hw229_0), ((HB.out.cell (World.block_lt_of_cell? w _ hw229_1)).trans hw229_1), ((HB.out.cell (World.block_lt_of_cell? w _ hw229_2)).trans hw229_2)⟩ (fun hHeld => ?_)
                        clear hK K
                        refine norm_ (a' := ?_) ?_ ?_
                        rotate_left
                        · show Act.put _ (some 35) _ = _
                          simp only [Act.put, List.setIfInBounds_toArray, List.set_cons_zero, List.set_cons_succ, i64_w, i32_w]
                          rfl
                        refine one_ (i := 16) (N := some 39) #[true, true, true, true, true, true, true, true, true, true, true, true, true, true, true, true, true, false, false] rfl rfl (one_of HT_.out (by kernel_rfl)) (by decide) (fun K hK => ?_)
                        refine goes_ Try.func36 (by kernel_rfl) rfl #[.slice Ao22 t230.length co22, .slice (some ad228) y233.length c1] (by rfl) rfl rfl (by (try simp only [List.map_toArray, List.map_cons, List.map_nil]); first | done | rfl | (simp only [List.length_drop, List.length_take]; rfl)) ?_
                        with_reducible refine (monikerref1_Done.calls k1 (fun k_ => some k_ = (.slice Ao22 t230.length co22 : Value).ownBlock) _ _ t230 _ _ y233 t237 _ ?side1 ?side2 ?side3 A13.out).mono ?_
                        (case side1 => exact Kd.R_V (Kd.R_tight rfl (Kd.R_apart' (HO232.out) (Kd.R_typed HO_7.out) (by decide))))
                        (case side2 => repeat (first | exact (Kd.C_below HR236.out HB.out) | (with_reducible refine Kd.C_alloc ?_ _) | (with_reducible refine Kd.C_drewN ?_ _) | (with_reducible refine Kd.C_drew ?_)))
                        (case side3 => exact HC236.out)
                        rintro e w23 ⟨v238, rfl, ho0, hb⟩
                        refine ⟨_, rfl, ?_⟩
                        have n0_ := Aside0.mk (Kd.R_below (by (with_reducible repeat (first | apply Kd.R_alloc | apply Kd.R_drewN | apply Kd.R_drew)); exact HO_7.out) hb)
                        have n1_ := Aside0.mk (Kd.R_elder' (by (with_reducible repeat (first | apply Kd.R_alloc | apply Kd.R_drewN | apply Kd.R_drew)); exact HO232.out) (Kd.R_base ho0) hb)
                        have n2_ := Aside0.mk (Kd.R_lower (Kd.R_new' (Kd.R_mono (ok' := fun k_ => True) ho0 (fun _ hk_ => trivial)) (Kd.R_lt (by (with_reducible repeat (first | apply Kd.R_alloc | apply Kd.R_drewN | apply Kd.R_drew)); exact HO232.out))) (below_size (by repeat (first | (with_reducible first | exact HB.out | apply below_alloc | apply pw_below_drewN | apply below_drew1) | exact HB.out))))
                        have n3_ := Aside0.mk (below_step (by repeat (first | (with_reducible first | exact HB.out | apply below_alloc | apply pw_below_drewN | apply below_drew1) | exact HB.out)) hb)
                        clear HO_7
                        clear HO232
                        clear HB
                        have HO_7 := n0_
                        have HO232 := n1_
                        have HO239 := n2_
                        have HB := n3_
                        clear n0_ n1_ n2_ n3_
                        (try clear hb)
                        (try clear hb2)
                        (try clear hk)
                        (try clear hi)
                        (try clear ho0)
                        obtain ⟨Ao24, co24, eo24⟩ := Kd.R_slice HO239.out
                        (first | subst eo24 | (injection eo24 with f1_ f2_ f3_; have f4_ := f1_.symm; have f5_ := f3_.symm; clear f1_ f2_ f3_; subst f4_; subst f5_))
                        refine hK.out _ _ ⟨((HB.out.cell (World.block_lt_of_cell? w _ hw228_0)).trans hw228_0), ((HB.out.cell (World.block_lt_of_cell? w _ hw228_1)).trans hw228_1), ((HB.out.cell (World.block_lt_of_cell? w _ hw228_2)).trans hw228_2), ((HB.out.cell (World.block_lt_of_cell? w _ hw229_0)).trans hw229_0), ((HB.out.cell (World.block_lt_of_cell? w _ hw229_1)).trans hw229_1), ((HB.out.cell (World.block_lt_of_cell? w _ hw229_2)).trans hw229_2)⟩ (fun hHeld => ?_)
                        clear hK K
                        refine norm_ (a' := ?_) ?_ ?_
                        rotate_left
                        · show Act.put _ (some 39) _ = _
                          simp only [Act.put, List.setIfInBounds_toArray, List.set_cons_zero, List.set_cons_succ, i64_w, i32_w]
                          rfl
                        refine one_ (i := 17) (N := some 40) #[true, true, true, true, true, true, true, true, true, true, true, true, true, true, true, true, true, true, false] rfl rfl (one_of HT_.out (by kernel_rfl)) (by decide) (fun K hK => ?_)
                        refine goes_ Try.func35 (by kernel_rfl) rfl #[.string (a0.extract 0 (((rd_T42 l1 x8_1).f0) : Int).toNat), .slice Ao24 t237.length co24] (by rfl) rfl rfl (by (try simp only [List.map_toArray, List.map_cons, List.map_nil]); first | done | rfl | (simp only [List.length_drop, List.length_take]; rfl)) ?_
                        with_reducible refine (monikerref1_said.calls k1 (a0.extract 0 (((rd_T42 l1 x8_1).f0) : Int).toNat) _ _ t237 t240 _ ?side1 ?side2 A14.out).mono ?_
                        (case side1 => repeat (first | exact (Kd.R_reads' HO239.out).2.2 | (with_reducible refine Kd.C_alloc ?_ _) | (with_reducible refine Kd.C_drewN ?_ _) | (with_reducible refine Kd.C_drew ?_)))
                        (case side2 => exact (Kd.R_reads' HO239.out).2.1)
                        rintro e w' ⟨rfl, ⟨nd, rfl⟩⟩
                        refine ⟨_, rfl, ?_⟩
                        refine hK.out _ _ ⟨((HB.out.cell (World.block_lt_of_cell? w _ hw228_0)).trans hw228_0), ((HB.out.cell (World.block_lt_of_cell? w _ hw228_1)).trans hw228_1), ((HB.out.cell (World.block_lt_of_cell? w _ hw228_2)).trans hw228_2), ((HB.out.cell (World.block_lt_of_cell? w _ hw229_0)).trans hw229_0), ((HB.out.cell (World.block_lt_of_cell? w _ hw229_1)).trans hw229_1), ((HB.out.cell (World.block_lt_of_cell? w _ hw229_2)).trans hw229_2)⟩ (fun hHeld => ?_)
                        clear hK K
                        refine norm_ (a' := ?_) ?_ ?_
                        rotate_left
                        · show Act.put _ (some 40) _ = _
                          simp only [Act.put, List.setIfInBounds_toArray, List.set_cons_zero, List.set_cons_succ, i64_w, i32_w]
                          rfl
                        refine pure_ (i := 18) (N := some 9) (v := ?_) (a' := ?_) #[true, true, true, true, true, true, true, true, true, true, true, true, true, true, true, true, true, true, true] rfl rfl (any_of HT_.out (by kernel_rfl)) (fun _ _ _ h => h) (Or.inl ⟨by rfl, ?_⟩) ?_ ?_
                        rotate_left
                        · intro w'
                          go_simp
                          with_reducible rfl
                        rotate_left
                        · simp only [Act.put, List.setIfInBounds_toArray, List.set_cons_zero, List.set_cons_succ, i64_w, i32_w]
                          rfl
                        refine done_ (done_of HT_.out (by kernel_rfl)) ?_
                        try go_wp2
                        (try (rw [drewN_self w23]; generalize hq_ : World.drewN w23 _ = w23; have n0_ : Aside0 (Kd.R k61 61 w23 w.heap.size (fun k_ => some k_ ≠ (.slice Ao24 t237.length co24 : Value).ownBlock) (.slice Ao22 t230.length co22) t230) := ⟨by rw [← hq_]; exact (by (with_reducible repeat (first | apply Kd.R_alloc | apply Kd.R_drewN | apply Kd.R_drew)); exact Kd.R_mono HO232.out (fun _ hk => hk.2))⟩; have n1_ : Aside0 (Kd.R k61 61 w23 w.heap.size (fun k_ => some k_ ≠ (.slice Ao22 t230.length co22 : Value).ownBlock) (.slice Ao24 t237.length co24) t237) := ⟨by rw [← hq_]; exact (by (with_reducible repeat (first | apply Kd.R_alloc | apply Kd.R_drewN | apply Kd.R_drew)); exact Kd.R_mono HO239.out (fun _ hk => hk.2))⟩; have n2_ : Aside0 (Kd.R k42 42 w23 w.heap.size (fun _ => True) u7 x7_1) := ⟨by rw [← hq_]; exact (by (with_reducible repeat (first | apply Kd.R_alloc | apply Kd.R_drewN | apply Kd.R_drew)); exact HO_7.out)⟩; have n3_ : Aside0 (Below w.heap.size w w23) := ⟨by rw [← hq_]; exact (by repeat (first | (with_reducible first | exact HB.out | apply below_alloc | apply pw_below_drewN | apply below_drew1) | exact HB.out))⟩; clear HO232 HO239 HO_7 HB hq_; have HO232 := n0_; have HO239 := n1_; have HO_7 := n2_; have HB := n3_; clear n0_ n1_ n2_ n3_))
                        have n0_ := Aside0.mk (Kd.R_drew HO_7.out)
                        have n1_ := Aside0.mk (Kd.R_drew HO232.out)
                        have n2_ := Aside0.mk (Kd.R_drew HO239.out)
                        have n3_ := Aside0.mk (below_drew1 HB.out)
                        clear HO_7
                        clear HO232
                        clear HO239
                        clear HB
                        have HO_7 := n0_
                        have HO232 := n1_
                        have HO239 := n2_
                        have HB := n3_
                        clear n0_ n1_ n2_ n3_
                        have p241 : 0 ≤ (x8_1 : Int) := of_decide_eq_true (by first | (with_reducible assumption) | assumption)
                        have q241 : x8_1 < (l1.length : Int) := of_decide_eq_true (by first | (with_reducible assumption) | assumption)
                        obtain ⟨ad241, e241, hx241_0, hx241_1, hx241_2⟩ := at_T42 HR1.out x8_1 p241 q241
                        have hw241_2 := hx241_2
                        have hw241_1 := hx241_1
                        have hw241_0 := hx241_0
                        obtain rfl : ad228 = ad241 := (by injection e241)
                        replace hx241_0 := (HB.out.cell (World.block_lt_of_cell? w _ hx241_0)).trans hx241_0
                        replace hx241_1 := (HB.out.cell (World.block_lt_of_cell? w _ hx241_1)).trans hx241_1
                        replace hx241_2 := (HB.out.cell (World.block_lt_of_cell? w _ hx241_2)).trans hx241_2
                        replace p241 := eq_true p241
                        replace q241 := eq_true q241
                        have p242 : 0 ≤ (x8_1 : Int) := of_decide_eq_true (by first | (with_reducible assumption) | assumption)
                        have q242 : x8_1 < (l1.length : Int) := of_decide_eq_true (by first | (with_reducible assumption) | assumption)
                        obtain ⟨ad242, e242, hx242_0, hx242_1, hx242_2⟩ := at_T42 HR1.out x8_1 p242 q242
                        have hw242_2 := hx242_2
                        have hw242_1 := hx242_1
                        have hw242_0 := hx242_0
                        obtain rfl : ad228 = ad242 := (by injection e242)
                        replace hx242_0 := (HB.out.cell (World.block_lt_of_cell? w _ hx242_0)).trans hx242_0
                        replace hx242_1 := (HB.out.cell (World.block_lt_of_cell? w _ hx242_1)).trans hx242_1
                        replace hx242_2 := (HB.out.cell (World.block_lt_of_cell? w _ hx242_2)).trans hx242_2
                        replace p242 := eq_true p242
                        replace q242 := eq_true q242
                        have p243 : 0 ≤ (x8_1 : Int) := of_decide_eq_true (by first | (with_reducible assumption) | assumption)
                        have q243 : x8_1 < (l1.length : Int) := of_decide_eq_true (by first | (with_reducible assumption) | assumption)
                        obtain ⟨ad243, e243, hx243_0, hx243_1, hx243_2⟩ := at_T42 HR1.out x8_1 p243 q243
                        have hw243_2 := hx243_2
                        have hw243_1 := hx243_1
                        have hw243_0 := hx243_0
                        obtain rfl : ad228 = ad243 := (by injection e243)
                        replace hx243_0 := (HB.out.cell (World.block_lt_of_cell? w _ hx243_0)).trans hx243_0
                        replace hx243_1 := (HB.out.cell (World.block_lt_of_cell? w _ hx243_1)).trans hx243_1
                        replace hx243_2 := (HB.out.cell (World.block_lt_of_cell? w _ hx243_2)).trans hx243_2
                        replace p243 := eq_true p243
                        replace q243 := eq_true q243
                        refine start_ (n := 28) (S := fun w' => w'.cell? (ad228.add ((x8_1).toNat * 3)) = some (.int .i64 ((rd_T42 l1 x8_1).f0)) ∧ w'.cell? ⟨(ad228.add ((x8_1).toNat * 3)).block, (ad228.add ((x8_1).toNat * 3)).off + 1, none⟩ = some (.int .i64 ((rd_T42 l1 x8_1).f1)) ∧ w'.cell? ⟨(ad228.add ((x8_1).toNat * 3)).block, (ad228.add ((x8_1).toNat * 3)).off + 2, none⟩ = some (.string ((rd_T42 l1 x8_1).f2)) ∧ w'.cell? (ad228.add ((x8_1).toNat * 3)) = some (.int .i64 ((rd_T42 l1 x8_1).f0)) ∧ w'.cell? ⟨(ad228.add ((x8_1).toNat * 3)).block, (ad228.add ((x8_1).toNat * 3)).off + 1, none⟩ = some (.int .i64 ((rd_T42 l1 x8_1).f1)) ∧ w'.cell? ⟨(ad228.add ((x8_1).toNat * 3)).block, (ad228.add ((x8_1).toNat * 3)).off + 2, none⟩ = some (.string ((rd_T42 l1 x8_1).f2)) ∧ w'.cell? (ad228.add ((x8_1).toNat * 3)) = some (.int .i64 ((rd_T42 l1 x8_1).f0)) ∧ w'.cell? ⟨(ad228.add ((x8_1).toNat * 3)).block, (ad228.add ((x8_1).toNat * 3)).off + 1, none⟩ = some (.int .i64 ((rd_T42 l1 x8_1).f1)) ∧ w'.cell? ⟨(ad228.add ((x8_1).toNat * 3)).block, (ad228.add ((x8_1).toNat * 3)).off + 2, none⟩ = some (.string ((rd_T42 l1 x8_1).f2))) (ds := []) #[false, false, false, false, false, false, false, false, false, false, false, false, false, false, false, false, false, false, false, false, false, false, false, false, false, false, false, false] (by kernel_rfl) rfl rfl ⟨((HB.out.cell (World.block_lt_of_cell? w _ hw241_0)).trans hw241_0), ((HB.out.cell (World.block_lt_of_cell? w _ hw241_1)).trans hw241_1), ((HB.out.cell (World.block_lt_of_cell? w _ hw241_2)).trans hw241_2), ((HB.out.cell (World.block_lt_of_cell? w _ hw242_0)).trans hw242_0), ((HB.out.cell (World.block_lt_of_cell? w _ hw242_1)).trans hw242_1), ((HB.out.cell (World.block_lt_of_cell? w _ hw242_2)).trans hw242_2), ((HB.out.cell (World.block_lt_of_cell? w _ hw243_0)).trans hw243_0), ((HB.out.cell (World.block_lt_of_cell? w _ hw243_1)).trans hw243_1), ((HB.out.cell (World.block_lt_of_cell? w _ hw243_2)).trans hw243_2)⟩ (fun hHeld => ?_); refine with_tabW monikerref1_Invert.tab9 monikerref1_Invert.bits9 (fun HT_ HW_ => ?_)
                        generalize w23.drew = w25 at HO_7 HO232 HO239 HB hx241_0 hx241_1 hx241_2 hx242_0 hx242_1 hx242_2 hx243_0 hx243_1 hx243_2 hHeld ⊢
                        refine pure_ (i := 0) (N := some 41) (v := ?_) (a' := ?_) #[true, false, false, false, false, false, false, false, false, false, false, false, false, false, false, false, false, false, false, false, false, false, false, false, false, false, false, false] rfl rfl (any_of HT_.out (by kernel_rfl)) (fun _ _ _ h => h) (Or.inl ⟨by rfl, ?_⟩) ?_ ?_
                        rotate_left
                        · intro w'
                          go_simp
                          with_reducible rfl
                        rotate_left
                        · simp only [Act.put, List.setIfInBounds_toArray, List.set_cons_zero, List.set_cons_succ, i64_w, i32_w]
                          rfl
                        refine pure_ (i := 1) (N := some 42) (v := ?_) (a' := ?_) #[true, true, false, false, false, false, false, false, false, false, false, false, false, false, false, false, false, false, false, false, false, false, false, false, false, false, false, false] rfl rfl (any_of HT_.out (by kernel_rfl)) (fun _ _ _ h => h) (Or.inl ⟨by rfl, ?_⟩) ?_ ?_
                        rotate_left
                        · intro w'
                          go_simp
                          with_reducible rfl
                        rotate_left
                        · simp only [Act.put, List.setIfInBounds_toArray, List.set_cons_zero, List.set_cons_succ, i64_w, i32_w]
                          rfl
                        refine pure_ (i := 2) (N := some 43) (v := ?_) (a' := ?_) #[true, true, true, false, false, false, false, false, false, false, false, false, false, false, false, false, false, false, false, false, false, false, false, false, false, false, false, false] rfl rfl (any_of HT_.out (by kernel_rfl)) (fun _ _ _ h => h) (Or.inl ⟨by rfl, ?_⟩) ?_ ?_
                        rotate_left
                        · intro w'
                          go_simp
                          with_reducible rfl
                        rotate_left
                        · simp only [Act.put, List.setIfInBounds_toArray, List.set_cons_zero, List.set_cons_succ, i64_w, i32_w]
                          rfl
                        refine pure_ (i := 3) (N := some 44) (v := ?_) (a' := ?_) #[true, true, true, true, false, false, false, false, false, false, false, false, false, false, false, false, false, false, false, false, false, false, false, false, false, false, false, false] rfl rfl (any_of HT_.out (by kernel_rfl)) (fun _ _ _ h => h) (Or.inl ⟨by rfl, ?_⟩) ?_ ?_
                        rotate_left
                        · intro w'
                          go_simp
                          with_reducible rfl
                        rotate_left
                        · simp only [Act.put, List.setIfInBounds_toArray, List.set_cons_zero, List.set_cons_succ, i64_w, i32_w]
                          rfl
                        refine pure_ (i := 4) (N := some 45) (v := ?_) (a' := ?_) #[true, true, true, true, true, false, false, false, false, false, false, false, false, false, false, false, false, false, false, false, false, false, false, false, false, false, false, false] rfl rfl (any_of HT_.out (by kernel_rfl)) (fun _ _ _ h => h) (Or.inl ⟨by rfl, ?_⟩) ?_ ?_
                        rotate_left
                        · intro w'
                          go_simp
                          with_reducible rfl
                        rotate_left
                        · simp only [Act.put, List.setIfInBounds_toArray, List.set_cons_zero, List.set_cons_succ, i64_w, i32_w]
                          rfl
                        refine pure_ (i := 5) (N := some 46) (v := ?_) (a' := ?_) #[true, true, true, true, true, true, false, false, false, false, false, false, false, false, false, false, false, false, false, false, false, false, false, false, false, false, false, false] rfl rfl (any_of HT_.out (by kernel_rfl)) (fun _ _ _ h => h) (Or.inl ⟨by rfl, ?_⟩) ?_ ?_
                        rotate_left
                        · intro w'
                          go_simp
                          with_reducible rfl
                        rotate_left
                        · simp only [Act.put, List.setIfInBounds_toArray, List.set_cons_zero, List.set_cons_succ, i64_w, i32_w]
                          rfl
                        refine pure_ (i := 6) (N := some 47) (v := ?_) (a' := ?_) #[true, true, true, true, true, true, true, false, false, false, false, false, false, false, false, false, false, false, false, false, false, false, false, false, false, false, false, false] rfl rfl (any_of HT_.out (by kernel_rfl)) (fun _ _ _ h => h) (Or.inl ⟨by rfl, ?_⟩) ?_ ?_
                        rotate_left
                        · intro w'
                          go_simp
                          with_reducible rfl
                        rotate_left
                        · simp only [Act.put, List.setIfInBounds_toArray, List.set_cons_zero, List.set_cons_succ, i64_w, i32_w]
                          rfl
                        refine pure_ (i := 7) (N := some 48) (v := ?_) (a' := ?_) #[true, true, true, true, true, true, true, true, false, false, false, false, false, false, false, false, false, false, false, false, false, false, false, false, false, false, false, false] rfl rfl (any_of HT_.out (by kernel_rfl)) (fun _ _ _ h => h) (Or.inl ⟨by rfl, ?_⟩) ?_ ?_
                        rotate_left
                        · intro w'
                          go_simp
                          with_reducible rfl
                        rotate_left
                        · simp only [Act.put, List.setIfInBounds_toArray, List.set_cons_zero, List.set_cons_succ, i64_w, i32_w]
                          rfl
                        refine pure_ (i := 8) (N := some 49) (v := ?_) (a' := ?_) #[true, true, true, true, true, true, true, true, true, false, false, false, false, false, false, false, false, false, false, false, false, false, false, false, false, false, false, false] rfl rfl (any_of HT_.out (by kernel_rfl)) (fun _ _ _ h => h) (Or.inl ⟨by rfl, ?_⟩) ?_ ?_
                        rotate_left
                        · intro w'
                          go_simp
                          with_reducible rfl
                        rotate_left
                        · simp only [Act.put, List.setIfInBounds_toArray, List.set_cons_zero, List.set_cons_succ, i64_w, i32_w]
                          rfl
                        refine pure_ (i := 12) (N := some 53) (v := ?_) (a' := ?_) #[true, true, true, true, true, true, true, true, true, false, false, false, true, false, false, false, false, false, false, false, false, false, false, false, false, false, false, false] rfl rfl (any_of HT_.out (by kernel_rfl)) (fun _ _ _ h => h) (Or.inl ⟨by rfl, ?_⟩) ?_ ?_
                        rotate_left
                        · intro w'
                          go_simp
                          with_reducible rfl
                        rotate_left
                        · simp only [Act.put, List.setIfInBounds_toArray, List.set_cons_zero, List.set_cons_succ, i64_w, i32_w]
                          rfl
                        refine pure_ (i := 13) (N := some 54) (v := ?_) (a' := ?_) #[true, true, true, true, true, true, true, true, true, false, false, false, true, true, false, false, false, false, false, false, false, false, false, false, false, false, false, false] rfl rfl (any_of HT_.out (by kernel_rfl)) (fun _ _ _ h => h) (Or.inl ⟨by rfl, ?_⟩) ?_ ?_
                        rotate_left
                        · intro w'
                          go_simp
                          with_reducible rfl
                        rotate_left
                        · simp only [Act.put, List.setIfInBounds_toArray, List.set_cons_zero, List.set_cons_succ, i64_w, i32_w]
                          rfl
                        refine pure_ (i := 14) (N := some 55) (v := ?_) (a' := ?_) #[true, true, true, true, true, true, true, true, true, false, false, false, true, true, true, false, false, false, false, false, false, false, false, false, false, false, false, false] rfl rfl (any_of HT_.out (by kernel_rfl)) (fun _ _ _ h => h) (Or.inl ⟨by rfl, ?_⟩) ?_ ?_
                        rotate_left
                        · intro w'
                          go_simp
                          with_reducible rfl
                        rotate_left
                        · simp only [Act.put, List.setIfInBounds_toArray, List.set_cons_zero, List.set_cons_succ, i64_w, i32_w]
                          rfl
                        refine pure_ (i := 15) (N := some 56) (v := ?_) (a' := ?_) #[true, true, true, true, true, true, true, true, true, false, false, false, true, true, true, true, false, false, false, false, false, false, false, false, false, false, false, false] rfl rfl (any_of HT_.out (by kernel_rfl)) (fun _ _ _ h => h) (Or.inl ⟨by rfl, ?_⟩) ?_ ?_
                        rotate_left
                        · intro w'
                          go_simp
                          with_reducible rfl
                        rotate_left
                        · simp only [Act.put, List.setIfInBounds_toArray, List.set_cons_zero, List.set_cons_succ, i64_w, i32_w]
                          rfl
                        refine pure_ (i := 16) (N := some 57) (v := ?_) (a' := ?_) #[true, true, true, true, true, true, true, true, true, false, false, false, true, true, true, true, true, false, false, false, false, false, false, false, false, false, false, false] rfl rfl (any_of HT_.out (by kernel_rfl)) (fun _ _ _ h => h) (Or.inl ⟨by rfl, ?_⟩) ?_ ?_
                        rotate_left
                        · intro w'
                          go_simp
                          with_reducible rfl
                        rotate_left
                        · simp only [Act.put, List.setIfInBounds_toArray, List.set_cons_zero, List.set_cons_succ, i64_w, i32_w]
                          rfl
                        refine pure_ (i := 18) (N := some 59) (v := ?_) (a' := ?_) #[true, true, true, true, true, true, true, true, true, false, false, false, true, true, true, true, true, false, true, false, false, false, false, false, false, false, false, false] rfl rfl (any_of HT_.out (by kernel_rfl)) (fun _ _ _ h => h) (Or.inl ⟨by rfl, ?_⟩) ?_ ?_
                        rotate_left
                        · intro w'
                          go_simp
                          with_reducible rfl
                        rotate_left
                        · simp only [Act.put, List.setIfInBounds_toArray, List.set_cons_zero, List.set_cons_succ, i64_w, i32_w]
                          rfl
                        refine pure_ (i := 19) (N := some 60) (v := ?_) (a' := ?_) #[true, true, true, true, true, true, true, true, true, false, false, false, true, true, true, true, true, false, true, true, false, false, false, false, false, false, false, false] rfl rfl (any_of HT_.out (by kernel_rfl)) (fun _ _ _ h => h) (Or.inl ⟨by rfl, ?_⟩) ?_ ?_
                        rotate_left
                        · intro w'
                          go_simp
                          with_reducible rfl
                        rotate_left
                        · simp only [Act.put, List.setIfInBounds_toArray, List.set_cons_zero, List.set_cons_succ, i64_w, i32_w]
                          rfl
                        refine pure_ (i := 20) (N := some 61) (v := ?_) (a' := ?_) #[true, true, true, true, true, true, true, true, true, false, false, false, true, true, true, true, true, false, true, true, true, false, false, false, false, false, false, false] rfl rfl (any_of HT_.out (by kernel_rfl)) (fun _ _ _ h => h) (Or.inl ⟨by rfl, ?_⟩) ?_ ?_
                        rotate_left
                        · intro w'
                          go_simp
                          with_reducible rfl
                        rotate_left
                        · simp only [Act.put, List.setIfInBounds_toArray, List.set_cons_zero, List.set_cons_succ, i64_w, i32_w]
                          rfl
                        refine pure_ (i := 21) (N := some 62) (v := ?_) (a' := ?_) #[true, true, true, true, true, true, true, true, true, false, false, false, true, true, true, true, true, false, true, true, true, true, false, false, false, false, false, false] rfl rfl (any_of HT_.out (by kernel_rfl)) (fun _ _ _ h => h) (Or.inl ⟨by rfl, ?_⟩) ?_ ?_
                        rotate_left
                        · intro w'
                          go_simp
                          with_reducible rfl
                        rotate_left
                        · simp only [Act.put, List.setIfInBounds_toArray, List.set_cons_zero, List.set_cons_succ, i64_w, i32_w]
                          rfl
                        refine take_ (i := 9) (N := some 50) (v := ?_) (a' := ?_) #[true, true, true, true, true, true, true, true, true, true, false, false, true, true, true, true, true, false, true, true, true, true, false, false, false, false, false, false] rfl rfl (take_ofW HT_.out HW_.out (by kernel_rfl)) (fun _ _ _ h => h) (Or.inl ⟨by rfl, ?_⟩) hHeld ?_ ?_
                        rotate_left
                        · rintro w' ⟨s0, s1, s2, s3, s4, s5, s6, s7, s8⟩
                          go_simp
                          with_reducible rfl
                        rotate_left
                        · simp only [Act.put, List.setIfInBounds_toArray, List.set_cons_zero, List.set_cons_succ, i64_w, i32_w]
                          rfl
                        refine pure_ (i := 10) (N := some 51) (v := ?_) (a' := ?_) #[true, true, true, true, true, true, true, true, true, true, true, false, true, true, true, true, true, false, true, true, true, true, false, false, false, false, false, false] rfl rfl (any_of HT_.out (by kernel_rfl)) (fun _ _ _ h => h) (Or.inl ⟨by rfl, ?_⟩) ?_ ?_
                        rotate_left
                        · intro w'
                          go_simp
                          with_reducible rfl
                        rotate_left
                        · simp only [Act.put, List.setIfInBounds_toArray, List.set_cons_zero, List.set_cons_succ, i64_w, i32_w]
                          rfl
                        refine pure_ (i := 11) (N := some 52) (v := ?_) (a' := ?_) #[true, true, true, true, true, true, true, true, true, true, true, true, true, true, true, true, true, false, true, true, true, true, false, false, false, false, false, false] rfl rfl (any_of HT_.out (by kernel_rfl)) (fun _ _ _ h => h) (Or.inl ⟨by rfl, ?_⟩) ?_ ?_
                        rotate_left
                        · intro w'
                          go_simp
                          with_reducible rfl
                        rotate_left
                        · simp only [Act.put, List.setIfInBounds_toArray, List.set_cons_zero, List.set_cons_succ, i64_w, i32_w]
                          rfl
                        refine take_ (i := 17) (N := some 58) (v := ?_) (a' := ?_) #[true, true, true, true, true, true, true, true, true, true, true, true, true, true, true, true, true, true, true, true, true, true, false, false, false, false, false, false] rfl rfl (take_ofW HT_.out HW_.out (by kernel_rfl)) (fun _ _ _ h => h) (Or.inl ⟨by rfl, ?_⟩) hHeld ?_ ?_
                        rotate_left
                        · rintro w' ⟨s0, s1, s2, s3, s4, s5, s6, s7, s8⟩
                          go_simp
                          with_reducible rfl
                        rotate_left
                        · simp only [Act.put, List.setIfInBounds_toArray, List.set_cons_zero, List.set_cons_succ, i64_w, i32_w]
                          rfl
                        refine take_ (i := 22) (N := some 63) (v := ?_) (a' := ?_) #[true, true, true, true, true, true, true, true, true, true, true, true, true, true, true, true, true, true, true, true, true, true, true, false, false, false, false, false] rfl rfl (take_ofW HT_.out HW_.out (by kernel_rfl)) (fun _ _ _ h => h) (Or.inl ⟨by rfl, ?_⟩) hHeld ?_ ?_
                        rotate_left
                        · rintro w' ⟨s0, s1, s2, s3, s4, s5, s6, s7, s8⟩
                          go_simp
                          with_reducible rfl
                        rotate_left
                        · simp only [Act.put, List.setIfInBounds_toArray, List.set_cons_zero, List.set_cons_succ, i64_w, i32_w]
                          rfl
                        refine pure_ (i := 23) (N := some 64) (v := ?_) (a' := ?_) #[true, true, true, true, true, true, true, true, true, true, true, true, true, true, true, true, true, true, true, true, true, true, true, true, false, false, false, false] rfl rfl (any_of HT_.out (by kernel_rfl)) (fun _ _ _ h => h) (Or.inl ⟨by rfl, ?_⟩) ?_ ?_
                        rotate_left
                        · intro w'
                          go_simp
                          with_reducible rfl
                        rotate_left
                        · simp only [Act.put, List.setIfInBounds_toArray, List.set_cons_zero, List.set_cons_succ, i64_w, i32_w]
                          rfl
                        refine pure_ (i := 24) (N := some 65) (v := ?_) (a' := ?_) #[true, true, true, true, true, true, true, true, true, true, true, true, true, true, true, true, true, true, true, true, true, true, true, true, true, false, false, false] rfl rfl (any_of HT_.out (by kernel_rfl)) (fun _ _ _ h => h) (Or.inl ⟨by rfl, ?_⟩) ?_ ?_
                        rotate_left
                        · intro w'
                          go_simp
                          with_reducible rfl
                        rotate_left
                        · simp only [Act.put, List.setIfInBounds_toArray, List.set_cons_zero, List.set_cons_succ, i64_w, i32_w]
                          rfl
                        refine one_ (i := 25) (N := some 66) #[true, true, true, true, true, true, true, true, true, true, true, true, true, true, true, true, true, true, true, true, true, true, true, true, true, true, false, false] rfl rfl (one_of HT_.out (by kernel_rfl)) (by decide) (fun K hK => ?_)
                        refine value_ (w1 := ?_) (v := ?_) (by rfl) rfl ?_ ?_
                        rotate_left 2
                        · go_simp
                          constructor
                          · rfl
                          · rfl
                        refine hK.out _ _ ⟨(World.cell?_alloc_lt _ _ _ (World.block_lt_of_cell? _ _ (((HB.out.cell (World.block_lt_of_cell? w _ hw241_0)).trans hw241_0)))).trans (((HB.out.cell (World.block_lt_of_cell? w _ hw241_0)).trans hw241_0)), (World.cell?_alloc_lt _ _ _ (World.block_lt_of_cell? _ _ (((HB.out.cell (World.block_lt_of_cell? w _ hw241_1)).trans hw241_1)))).trans (((HB.out.cell (World.block_lt_of_cell? w _ hw241_1)).trans hw241_1)), (World.cell?_alloc_lt _ _ _ (World.block_lt_of_cell? _ _ (((HB.out.cell (World.block_lt_of_cell? w _ hw241_2)).trans hw241_2)))).trans (((HB.out.cell (World.block_lt_of_cell? w _ hw241_2)).trans hw241_2)), (World.cell?_alloc_lt _ _ _ (World.block_lt_of_cell? _ _ (((HB.out.cell (World.block_lt_of_cell? w _ hw242_0)).trans hw242_0)))).trans (((HB.out.cell (World.block_lt_of_cell? w _ hw242_0)).trans hw242_0)), (World.cell?_alloc_lt _ _ _ (World.block_lt_of_cell? _ _ (((HB.out.cell (World.block_lt_of_cell? w _ hw242_1)).trans hw242_1)))).trans (((HB.out.cell (World.block_lt_of_cell? w _ hw242_1)).trans hw242_1)), (World.cell?_alloc_lt _ _ _ (World.block_lt_of_cell? _ _ (((HB.out.cell (World.block_lt_of_cell? w _ hw242_2)).trans hw242_2)))).trans (((HB.out.cell (World.block_lt_of_cell? w _ hw242_2)).trans hw242_2)), (World.cell?_alloc_lt _ _ _ (World.block_lt_of_cell? _ _ (((HB.out.cell (World.block_lt_of_cell? w _ hw243_0)).trans hw243_0)))).trans (((HB.out.cell (World.block_lt_of_cell? w _ hw243_0)).trans hw243_0)), (World.cell?_alloc_lt _ _ _ (World.block_lt_of_cell? _ _ (((HB.out.cell (World.block_lt_of_cell? w _ hw243_1)).trans hw243_1)))).trans (((HB.out.cell (World.block_lt_of_cell? w _ hw243_1)).trans hw243_1)), (World.cell?_alloc_lt _ _ _ (World.block_lt_of_cell? _ _ (((HB.out.cell (World.block_lt_of_cell? w _ hw243_2)).trans hw243_2)))).trans (((HB.out.cell (World.block_lt_of_cell? w _ hw243_2)).trans hw243_2))⟩ (fun hHeld => ?_)
                        clear hK K
                        refine norm_ (a' := ?_) ?_ ?_
                        rotate_left
                        · show Act.put _ (some 66) _ = _
                          simp only [Act.put, List.setIfInBounds_toArray, List.set_cons_zero, List.set_cons_succ, i64_w, i32_w]
                          rfl
                        refine one_ (i := 26) (N := some 67) #[true, true, true, true, true, true, true, true, true, true, true, true, true, true, true, true, true, true, true, true, true, true, true, true, true, true, true, false] rfl rfl (one_of HT_.out (by kernel_rfl)) (by decide) (fun K hK => ?_)
                        refine Kd.R_append_step k42 (w0 := w) w.heap.size (by rfl) (.tmp 41) (.tmp 66) 22 42 (.agg #[(.int .i64 0), (.int .i64 0), (.string ⟨#[]⟩)]) 32 rfl Try.underlying22 info42 rfl (by decide) (by omega) u7 x7_1 (⟨(t240.size : Int), wrap64 ((t240.size : Int) + (((rd_T42 l1 x8_1).f2).size : Int)), a0.extract (((rd_T42 l1 x8_1).f0) : Int).toNat (((rd_T42 l1 x8_1).f1) : Int).toNat⟩ : S42) [.int .i64 (t240.size : Int), .int .i64 (wrap64 ((t240.size : Int) + (((rd_T42 l1 x8_1).f2).size : Int))), .string (a0.extract (((rd_T42 l1 x8_1).f0) : Int).toNat (((rd_T42 l1 x8_1).f1) : Int).toNat)] (fun _ => True) (fun _ => False) rfl rfl ?aP (fun _ hk => hk.elim) ?aF ?aO ?aB ?aS ?aL ?_
                        (case aP => exact k42_mkM _ _ _ (⟨(t240.size : Int), wrap64 ((t240.size : Int) + (((rd_T42 l1 x8_1).f2).size : Int)), a0.extract (((rd_T42 l1 x8_1).f0) : Int).toNat (((rd_T42 l1 x8_1).f1) : Int).toNat⟩ : S42))
                        (case aB => exact (by repeat (first | (with_reducible first | exact HB.out | apply below_alloc | apply pw_below_drewN | apply below_drew1) | exact HB.out)))
                        (case aF => exact (fun _ _ => trivial))
                        (case aO => exact (by (with_reducible repeat (first | apply Kd.R_alloc | apply Kd.R_drewN | apply Kd.R_drew)); exact HO_7.out))
                        (case aS => exact (below_size (by repeat (first | (with_reducible first | exact HB.out | apply below_alloc | apply pw_below_drewN | apply below_drew1) | exact HB.out))))
                        (case aL => have := LMc18.out; omega)
                        intro v245 w26 ho hb hg hat
                        rw [← Ny244.out] at ho
                        have n0_ := Aside0.mk (Kd.R_over' (by (with_reducible repeat (first | apply Kd.R_alloc | apply Kd.R_drewN | apply Kd.R_drew)); exact HO232.out) (Kd.R_typed (by (with_reducible repeat (first | apply Kd.R_alloc | apply Kd.R_drewN | apply Kd.R_drew)); exact HO_7.out)) (by decide) hg)
                        have n1_ := Aside0.mk (Kd.R_over' (by (with_reducible repeat (first | apply Kd.R_alloc | apply Kd.R_drewN | apply Kd.R_drew)); exact HO239.out) (Kd.R_typed (by (with_reducible repeat (first | apply Kd.R_alloc | apply Kd.R_drewN | apply Kd.R_drew)); exact HO_7.out)) (by decide) hg)
                        have n2_ := Aside0.mk (hb)
                        have n3_ := Aside0.mk (ho)
                        clear HO232
                        clear HO239
                        clear HB
                        clear HO_7
                        have HO232 := n0_
                        have HO239 := n1_
                        have HB := n2_
                        have HO246 := n3_
                        clear n0_ n1_ n2_ n3_
                        clear ho hb hg hat
                        refine hK.out _ _ ⟨((HB.out.cell (World.block_lt_of_cell? w _ hw241_0)).trans hw241_0), ((HB.out.cell (World.block_lt_of_cell? w _ hw241_1)).trans hw241_1), ((HB.out.cell (World.block_lt_of_cell? w _ hw241_2)).trans hw241_2), ((HB.out.cell (World.block_lt_of_cell? w _ hw242_0)).trans hw242_0), ((HB.out.cell (World.block_lt_of_cell? w _ hw242_1)).trans hw242_1), ((HB.out.cell (World.block_lt_of_cell? w _ hw242_2)).trans hw242_2), ((HB.out.cell (World.block_lt_of_cell? w _ hw243_0)).trans hw243_0), ((HB.out.cell (World.block_lt_of_cell? w _ hw243_1)).trans hw243_1), ((HB.out.cell (World.block_lt_of_cell? w _ hw243_2)).trans hw243_2)⟩ (fun hHeld => ?_)
                        clear hK K
                        refine norm_ (a' := ?_) ?_ ?_
                        rotate_left
                        · show Act.put _ (some 67) _ = _
                          simp only [Act.put, List.setIfInBounds_toArray, List.set_cons_zero, List.set_cons_succ, i64_w, i32_w]
                          rfl
                        refine pure_ (i := 27) (N := some 7) (v := ?_) (a' := ?_) #[true, true, true, true, true, true, true, true, true, true, true, true, true, true, true, true, true, true, true, true, true, true, true, true, true, true, true, true] rfl rfl (any_of HT_.out (by kernel_rfl)) (fun _ _ _ h => h) (Or.inl ⟨by rfl, ?_⟩) ?_ ?_
                        rotate_left
                        · intro w'
                          go_simp
                          with_reducible rfl
                        rotate_left
                        · simp only [Act.put, List.setIfInBounds_toArray, List.set_cons_zero, List.set_cons_succ, i64_w, i32_w]
                          rfl
                        refine done_ (done_of HT_.out (by kernel_rfl)) ?_
                        try go_wp2
                        go_roundg k1
                        case measure => have := HK1.out; omega
                        case rel => exact ⟨(y244), (wrap64 (x8_1 + 1)), (by first | rfl | (simp; done) | (simp [*]; done)), H', ⟨by have := HK1.out; omega⟩, ⟨by (with_reducible repeat (first | apply Kd.R_alloc | apply Kd.R_drewN | apply Kd.R_drew)); exact HO246.out⟩, ⟨by repeat (first | (with_reducible first | exact HB.out | apply below_alloc | apply pw_below_drewN | apply below_drew1) | exact HB.out)⟩⟩
                      · rw [if_neg c18] at H
                        exact absurd H (by simp)
                    · rw [if_neg c17] at H
                      exact absurd H (by simp)
                  · rw [if_neg c16] at H
                    exact absurd H (by simp)
                · rw [if_neg c12] at H
                  exact absurd H (by simp)
              · rw [if_neg c9] at H
                exact absurd H (by simp)
            · rw [if_neg c8] at H
              exact absurd H (by simp)
          · rw [if_neg c7] at H
            exact absurd H (by simp)
        · rw [if_neg c6] at H
          have c6b0 : decide (x8_1 < (l1.length : Int)) = false := decide_eq_false c6
          clear c6
          simp only [Option.some.injEq, Prod.mk.injEq] at H
          obtain ⟨rfl, rfl⟩ := H
          go_wp2
          go_ret2
          exact ⟨_, by first | rfl | (simp [errW_none, errW_some] <;> rfl) | (simp [*, errW_none, errW_some] <;> rfl), by (with_reducible repeat (first | apply Kd.R_alloc | apply Kd.R_drewN | apply Kd.R_drew)); exact HO_7.out, by repeat (first | (with_reducible first | exact HB.out | apply below_alloc | apply pw_below_drewN | apply below_drew1) | exact HB.out)⟩
  · rw [if_neg c4] at H
    have c4b0 : (t227 == 0) = false := beq_eq_false_iff_ne.mpr c4
    have c4b1 : (t227 != 0) = true := bne_iff_ne.mpr c4
    simp only [Option.some.injEq, Prod.mk.injEq] at H
    obtain ⟨rfl, rfl⟩ := H
    go_enter Try.func20, Try.ntmps20
    go_wp2_with (first | ((with_reducible refine gate_callee (f := 33) rfl ?_); refine goesL_ (some 13) rfl rfl Try.func33 (by kernel_rfl) rfl #[.int .i64 (a0.size : Int), .slice A1 l1.length c1] rfl (by (try simp only [List.map_toArray, List.map_cons, List.map_nil]); first | done | rfl | (simp only [List.length_drop, List.length_take]; rfl)) ?_; (with_reducible refine (monikerref1_valid.calls k (a0.size : Int) _ _ l1 t227 _ ?side1 ?side2 A3.out).mono ?_); (case side1 => repeat (first | exact HR1.out | (with_reducible refine Kd.C_alloc ?_ _) | (with_reducible refine Kd.C_drewN ?_ _) | (with_reducible refine Kd.C_drew ?_))); (case side2 => exact HC1.out); rintro e w27 ⟨rfl, hb⟩; refine ⟨_, rfl, ?_⟩; have n0_ := Aside0.mk (below_step (by repeat (first | (with_reducible first | exact HB.out | apply below_alloc | apply pw_below_drewN | apply below_drew1) | exact HB.out)) hb); clear HB; have HB := n0_; clear n0_; (try clear hb); (try clear hb2); (try clear hk); (try clear hi)))
    go_ret2
    exact ⟨_, by first | rfl | (simp [errW_none, errW_some] <;> rfl) | (simp [*, errW_none, errW_some] <;> rfl), by first | exact Kd.R_nil _ _ _ _ _ | exact Kd.N_nil _ _ _ _ _ | exact Kd.V_nil _ _ _ _ _ | exact Kd.Q_nil _ _ _ _ _ | exact Kd.S_nil _ _ _ _ _, by repeat (first | (with_reducible first | exact HB.out | apply below_alloc | apply pw_below_drewN | apply below_drew1) | exact HB.out)⟩

end Go.Proofs.Ytaihajmdngoeiaa.F

namespace Go.Proofs.Ytaihajmdngoeiaa.Q
open Go.RowKit Go.Proofs.YtaihajmdngoeiaaW.PrintWords Go.Proofs.YtaihajmdngoeiaaW.PrintLast Go.Proofs.YtaihajmdngoeiaaW.PrintMore
open Go.Proofs.Ytaihajmdngoeiaa.F

theorem chain_lt {size : Int} : ∀ {l : List S42} {q : Int}, Chain size (some q) l → ∀ j (h : j < l.length), q < (l[j]).f0 ∧ q < (l[j]).f1
  | e :: t, q, ⟨c1, c2, c3, c4, c5⟩, 0, _ => by have := c4 q rfl; exact ⟨this, by show q < e.f1; omega⟩
  | e :: t, q, ⟨c1, c2, c3, c4, c5⟩, j + 1, h => by
    have := c4 q rfl
    have h2 := chain_lt c5 j (by simpa using h)
    simp only [List.getElem_cons_succ]
    omega
theorem chain_take {size : Int} : ∀ {l : List S42} {p : Option Int}, Chain size p l → ∀ j (h : j < l.length), Chain (l[j]).f0 p (l.take j)
  | e :: t, p, _, 0, _ => trivial
  | e :: t, p, ⟨c1, c2, c3, c4, c5⟩, j + 1, h => by
    have h2 := chain_lt c5 j (by simpa using h)
    refine ⟨c1, c2, ?_, c4, ?_⟩
    · simp only [List.getElem_cons_succ]; omega
    · exact chain_take c5 j (by simpa using h)
theorem chain_drop {size : Int} : ∀ {l : List S42} {p : Option Int}, Chain size p l → ∀ j, ∃ q, Chain size q (l.drop j)
  | [], p, _, j => ⟨none, by simp [Chain]⟩
  | e :: t, p, h, 0 => ⟨p, h⟩
  | e :: t, p, ⟨c1, c2, c3, c4, c5⟩, j + 1 => by simpa using chain_drop c5 j
theorem chain_at {size : Int} {l : List S42} {p : Option Int} (h : Chain size p l) (j : Nat) (hj : j < l.length) : 0 ≤ (l[j]).f0 ∧ (l[j]).f0 ≤ (l[j]).f1 ∧ (l[j]).f1 ≤ size := by
  obtain ⟨q, hq⟩ := chain_drop h j
  rw [List.drop_eq_getElem_cons hj] at hq
  exact ⟨hq.1, hq.2.1, hq.2.2.1⟩
theorem sumG_bound : ∀ (l : List S42), (∀ x ∈ l, x.f2.size ≤ 140737488351232) → ∀ {size : Int} {p : Option Int}, Chain size p l → sumG l ≤ l.length * 140737488351232
  | [], _, _, _, _ => by simp [sumG]
  | e :: t, h, size, p, ⟨c1, c2, c3, c4, c5⟩ => by
    have := sumG_bound t (fun x hx => h x (List.mem_cons_of_mem _ hx)) c5
    have := h e List.mem_cons_self
    simp only [sumG, grow, List.length_cons]
    omega
theorem growsOf_eq (e : S42) : wrap64 (growsOf e) = wrap64 (grow e) := by unfold growsOf grow wrap64; omega
theorem wrap_add (a b : Int) : wrap64 (wrap64 a + b) = wrap64 (a + b) := by unfold wrap64; omega
theorem wrap_add' (a b : Int) : wrap64 (a + wrap64 b) = wrap64 (a + b) := by unfold wrap64; omega
theorem shift_step (s : Int) (e : S42) : wrap64 (wrap64 s + growsOf e) = wrap64 (s + grow e) := by unfold growsOf grow wrap64; omega

/-- The edits that take a list back; s: by how much the places have moved. -/
def invGo (text : ByteArray) : Int → List S42 → List S42
  | _, [] => []
  | s, e :: t => ⟨wrap64 (e.f0 + s), wrap64 (wrap64 (e.f0 + s) + e.f2.size), text.extract e.f0.toNat e.f1.toNat⟩ :: invGo text (s + grow e) t

theorem inv_loop (text : ByteArray) (l : List S42) (hl : l.length ≤ 65536) (hc : Chain text.size none l) (d : Nat) : ∀ (i : Nat) (s : Int) (out : List S42), i ≤ l.length → l.length - i = d → out.length + d ≤ 65536 →
    Ev (fun k => edits_Invert.l0 k text out (wrap64 s) l (l.length : Int) (i : Int)) (out ++ invGo text s (l.drop i), 0) := by
  induction d with
  | zero =>
    intro i s out h1 h2 ho
    refine ⟨1, fun n hn => ?_⟩
    obtain ⟨k, rfl⟩ : ∃ m, n = m + 1 := ⟨n - 1, by omega⟩
    simp only [edits_Invert.l0]
    rw [if_neg (by omega), List.drop_eq_nil_of_le (by omega)]
    simp [invGo]
  | succ d ih =>
    intro i s out h1 h2 ho
    have hi : i < l.length := by omega
    have hci : (i : Int) < (l.length : Int) := by omega
    have hc0 : (0 : Int) ≤ (i : Int) := by omega
    have hw : wrap64 ((i : Int) + 1) = ((i + 1 : Nat) : Int) := by rw [w64] <;> omega
    obtain ⟨e1, e2, e3⟩ := chain_at hc i hi
    have ho2 : out.length < 4398046511104 := by omega
    obtain ⟨K, hK⟩ := ih (i + 1) (s + grow l[i]) (out ++ [⟨wrap64 ((l[i]).f0 + s), wrap64 (wrap64 ((l[i]).f0 + s) + (l[i]).f2.size), text.extract (l[i]).f0.toNat (l[i]).f1.toNat⟩]) (by omega) (by omega) (by simp; omega)
    refine ⟨K + 1, fun n hn => ?_⟩
    obtain ⟨k, rfl⟩ : ∃ m, n = m + 1 := ⟨n - 1, by omega⟩
    have g := hK k (by omega)
    simp only at g
    simp only [edits_Invert.l0]
    rw [rd_at l i hi, if_pos hci, if_pos hc0, if_pos hci, if_pos e1, if_pos e2, if_pos e3, if_pos ho2, grows_is]
    simp only [Option.bind_some]
    rw [wrap_add', shift_step, hw, g, List.drop_eq_getElem_cons hi]
    simp [invGo]

theorem rinv_loop (text : ByteArray) (ht : text.size ≤ 140737488351232) (l : List S42) (hl : l.length ≤ 65536) (hB : ∀ x ∈ l, x.f2.size ≤ 140737488351232) (hc : Chain text.size none l) (d : Nat) : ∀ (i : Nat) (out : List S42), i ≤ l.length → l.length - i = d → out.length + d ≤ 65536 →
    Ev (fun k => monikerref1_Invert.l0 k text l out (i : Int)) (out ++ invGo text (sumG (l.take i)) (l.drop i), 0) := by
  induction d with
  | zero =>
    intro i out h1 h2 ho
    refine ⟨1, fun n hn => ?_⟩
    obtain ⟨k, rfl⟩ : ∃ m, n = m + 1 := ⟨n - 1, by omega⟩
    simp only [monikerref1_Invert.l0]
    rw [if_neg (by omega), List.drop_eq_nil_of_le (by omega)]
    simp [invGo]
  | succ d ih =>
    intro i out h1 h2 ho
    have hi : i < l.length := by omega
    have hci : (i : Int) < (l.length : Int) := by omega
    have hci' : (i : Int) ≤ (l.length : Int) := by omega
    have hc0 : (0 : Int) ≤ (i : Int) := by omega
    have hw : wrap64 ((i : Int) + 1) = ((i + 1 : Nat) : Int) := by rw [w64] <;> omega
    obtain ⟨e1, e2, e3⟩ := chain_at hc i hi
    have e4 : (l[i]).f0 ≤ (text.size : Int) := by omega
    have ho2 : out.length < 4398046511104 := by omega
    have hct := chain_take hc i hi
    have htl : (l.take i).length = i := by rw [List.length_take]; omega
    have hsb := sumG_bound (l.take i) (fun x hx => hB x (List.mem_of_mem_take hx)) hct
    rw [htl] at hsb
    have hcut : (text.extract 0 (l[i]).f0.toNat).size = (l[i]).f0.toNat := by rw [ByteArray.size_extract]; omega
    have hcut' : (l[i]).f0 = ((text.extract 0 (l[i]).f0.toNat).size : Int) := by rw [hcut]; omega
    have hsz := saidB_size (text.extract 0 (l[i]).f0.toNat) (l[i]).f0 hcut' (l.take i) 0 none hct (by omega) e1 (fun e t he => by
      have := hct
      rw [he] at this
      exact this.1)
    have hold := segs_old (l[i]).f0 e1 (l.take i) 0 none hct (by omega)
    have hlen := segs_len (l[i]).f0 (l.take i) 0
    rw [htl] at hlen
    have hfrom : ((saidB (text.extract 0 (l[i]).f0.toNat) (segs (l[i]).f0 0 (l.take i))).size : Int) = wrap64 ((l[i]).f0 + sumG (l.take i)) := by
      rw [hsz, w64] <;> omega
    have hsum : sumG (l.take i) + grow l[i] = sumG (l.take (i + 1)) := by
      rw [List.take_succ_eq_append_getElem hi, sumG_append]
      simp [sumG]
    have hsz2 : (saidB (text.extract 0 (l[i]).f0.toNat) (segs (l[i]).f0 0 (l.take i))).size ≤ 9223372036854775807 := by omega
    obtain ⟨K1, hK1⟩ := Done_is (l[i]).f0 e1 (by omega) (l.take i) (by omega) hct
    obtain ⟨K2, hK2⟩ := said_is (text.extract 0 (l[i]).f0.toNat) (segs (l[i]).f0 0 (l.take i)) (by omega) (fun r hr hf => by
      rw [← hcut']
      exact hold r hr hf) hsz2
    obtain ⟨K, hK⟩ := ih (i + 1) (out ++ [⟨wrap64 ((l[i]).f0 + sumG (l.take i)), wrap64 (wrap64 ((l[i]).f0 + sumG (l.take i)) + (l[i]).f2.size), text.extract (l[i]).f0.toNat (l[i]).f1.toNat⟩]) (by omega) (by omega) (by simp; omega)
    clear hsz hsb hsz2 hold hlen
    refine ⟨K + K1 + K2 + 1, fun n hn => ?_⟩
    obtain ⟨k, rfl⟩ : ∃ m, n = m + 1 := ⟨n - 1, by omega⟩
    have g := hK k (by omega)
    have g1 := hK1 k (by omega)
    have g2 := hK2 k (by omega)
    simp only at g g1 g2
    simp only [monikerref1_Invert.l0]
    rw [rd_at l i hi, if_pos hci, if_pos hc0, if_pos e1, if_pos e4, Whole_is]
    simp only [Option.bind_some]
    rw [if_pos hci', Int.toNat_natCast, g1]
    simp only [Option.bind_some]
    rw [g2]
    simp only [Option.bind_some]
    rw [if_pos e2, if_pos e3, if_pos ho2, hfrom, hw, g, List.drop_eq_getElem_cons hi]
    simp [invGo, hsum]

def Invspec (text : ByteArray) (l : List S42) : List S42 × Int := if vspec text.size l = 0 then (invGo text 0 l, 0) else ([], vspec text.size l)
theorem Invert_is (text : ByteArray) (l : List S42) : Ev (fun k => edits_Invert.f k text l) (Invspec text l) := by
  unfold edits_Invert.f Invspec
  refine (valid_is _ l).bind ?_
  by_cases h : vspec text.size l = 0
  · simp only [if_pos h]
    obtain ⟨hl, hc⟩ := vspec_zero h
    have := inv_loop text l hl hc l.length 0 0 [] (by omega) (by omega) (by simpa using hl)
    simpa [show wrap64 0 = 0 by rw [w64] <;> omega] using this
  · simp only [if_neg h]; exact Ev.now _
theorem RInvert_is (text : ByteArray) (ht : text.size ≤ 140737488351232) (l : List S42) (hB : ∀ x ∈ l, x.f2.size ≤ 140737488351232) : Ev (fun k => monikerref1_Invert.f k text l) (Invspec text l) := by
  unfold monikerref1_Invert.f Invspec
  refine (rvalid_is _ l).bind ?_
  by_cases h : vspec text.size l = 0
  · simp only [if_pos h]
    obtain ⟨hl, hc⟩ := vspec_zero h
    have := rinv_loop text ht l hl hB hc l.length 0 [] (by omega) (by omega) (by simpa using hl)
    simpa [sumG] using this
  · simp only [if_neg h]; exact Ev.now _
end Go.Proofs.Ytaihajmdngoeiaa.Q

-- A text of this session's own program (wip/myprint.sh over a changed print tool): functions and their walks
namespace Go.Proofs.Ytaihajmdngoeiaa.F
open Go.RowKit Go.Proofs.YtaihajmdngoeiaaW.PrintWords Go.Proofs.YtaihajmdngoeiaaW.PrintLast Go.Proofs.YtaihajmdngoeiaaW.PrintMore
attribute [local go_sem] max2_int min2_int max_two min_two max_three min_three max_four min_four   -- for this text's walks alone
set_option linter.unusedVariables false
set_option linter.unusedSimpArgs false

/-! ### edits_left: function 38 -/
def edits_left.l0 : Nat → Int → List (S42) → Int → Int → Option (Int)
  | 0, _, _, _, _ => none
  | k + 1, x0, x7, x8, x9 => if x9 < x8 then (if 0 ≤ x9 then (if x9 < (x7.length : Int) then ((edits_grows.f ((rd_T42 x7 x9).f0) ((rd_T42 x7 x9).f1) ((rd_T42 x7 x9).f2)).bind fun t281 => (edits_left.l0 k (wrap64 (x0 + t281)) x7 x8 (wrap64 (x9 + 1)))) else (none)) else (none)) else (some x0)
def edits_left.f (k : Nat) (a0 : Int) (l1 : List (S42)) : Option (Int) := edits_left.l0 k a0 l1 (l1.length : Int) 0
theorem edits_left.mono_l : ∀ k, (∀ y0 y1 y2 y3, LeO (edits_left.l0 k y0 y1 y2 y3) (edits_left.l0 (k + 1) y0 y1 y2 y3))
  | 0 => fun _ _ _ _ r h => by simp [edits_left.l0] at h
  | k + 1 => by
    have ih0 := edits_left.mono_l k
    · intro y0 y1 y2 y3
      unfold edits_left.l0
      repeat' first
      | (with_reducible exact ih0 _ _ _ _)
      | (with_reducible exact LeO.refl _)
      | (with_reducible exact LeO.none _)
      | (with_reducible refine LeO.ite ?_ ?_)
      | (with_reducible refine LeO.bind ?_ (fun _ => ?_))
      | exact ih0 _ _ _ _
      | exact LeO.none _
      | refine LeO.ite ?_ ?_
      | refine LeO.bind ?_ (fun _ => ?_)
theorem edits_left.mono : ∀ a0 a1 k, LeO (edits_left.f k a0 a1) (edits_left.f (k + 1) a0 a1) := by
  intro a0 a1 k
  have ih0 := edits_left.mono_l k
  unfold edits_left.f
  repeat' first
      | (with_reducible exact ih0 _ _ _ _)
      | (with_reducible exact LeO.refl _)
      | (with_reducible exact LeO.none _)
      | (with_reducible refine LeO.ite ?_ ?_)
      | (with_reducible refine LeO.bind ?_ (fun _ => ?_))
      | exact ih0 _ _ _ _
      | exact LeO.none _
      | refine LeO.ite ?_ ?_
      | refine LeO.bind ?_ (fun _ => ?_)
set_option maxHeartbeats 8000000 in
set_option maxRecDepth 100000 in
theorem edits_left.calls (k : Nat) (a0 : Int) (A1 : Option Addr) (c1 : Nat) (l1 : List (S42)) (r : Int) (w : World) (hr1 : Kd.C k42 w A1 l1.length l1) (hc1 : l1.length ≤ c1) (h : edits_left.f k a0 l1 = some r) :
    Calls Try.prog 38 #[.int .i64 a0, .slice A1 l1.length c1] w fun e w' => e = .returned (.int .i64 r) ∧ Below w.heap.size w w' := by
  have hu42 := Try.underlying42
  have HR1 := Aside0.mk hr1
  have HC1 := Aside0.mk hc1
  clear hr1 hc1
  have HB := Aside0.mk (Below.refl w.heap.size w)
  have H : (edits_left.l0 k a0 l1 (l1.length : Int) 0) = some r := h
  clear h
  have H' := Aside0.mk H
  clear H
  go_enter Try.func38, Try.ntmps38
  go_wp2
  go_loopg [0, 9] k (fun kq v0 v9 w' => ∃ (x0_1 : Int) (x9_1 : Int), v0 = .int .i64 x0_1 ∧ v9 = .int .i64 x9_1 ∧ Aside0 (edits_left.l0 kq x0_1 l1 (l1.length : Int) x9_1 = some r) ∧ Aside0 (kq ≤ k) ∧ Aside0 (Below w.heap.size w w'))
  case atStart => exact ⟨(a0), (0), (by first | rfl | (simp; done) | (simp [*]; done)), (by first | rfl | (simp; done) | (simp [*]; done)), H', ⟨Nat.le_refl _⟩, ⟨by repeat (first | (with_reducible first | exact HB.out | apply below_alloc | apply pw_below_drewN | apply below_drew1) | exact HB.out)⟩⟩
  case round =>
    clear H'
    try clear c1
    try clear p2
    obtain ⟨x0_1, x9_1, rfl, rfl, HA, HK1, HB⟩ := hrel
    cases gk with
    | zero => exact absurd HA.out (by simp [edits_left.l0])
    | succ k1 =>
      have H := HA.out
      clear HA
      simp only [edits_left.l0] at H
      by_cases c3 : x9_1 < (l1.length : Int)
      · rw [if_pos c3] at H
        have c3b0 : decide (x9_1 < (l1.length : Int)) = true := decide_eq_true c3
        clear c3
        by_cases c4 : 0 ≤ x9_1
        · rw [if_pos c4] at H
          have c4b0 : decide (0 ≤ x9_1) = true := decide_eq_true c4
          clear c4
          by_cases c5 : x9_1 < (l1.length : Int)
          · rw [if_pos c5] at H
            have c5b0 : decide (x9_1 < (l1.length : Int)) = true := decide_eq_true c5
            clear c5
            replace H := Option.bind_eq_some_iff.mp H
            obtain ⟨t281, A60, H⟩ := H
            replace H : (edits_left.l0 k1 (wrap64 (x0_1 + t281)) l1 (l1.length : Int) (wrap64 (x9_1 + 1))) = some r := H
            have A6 := Aside0.mk A60
            clear A60
            have H' := Aside0.mk H
            clear H
            have p279 : 0 ≤ (x9_1 : Int) := of_decide_eq_true (by first | (with_reducible assumption) | assumption)
            have q279 : x9_1 < (l1.length : Int) := of_decide_eq_true (by first | (with_reducible assumption) | assumption)
            obtain ⟨ad279, e279, hx279_0, hx279_1, hx279_2⟩ := at_T42 HR1.out x9_1 p279 q279
            cases e279
            replace hx279_0 := (HB.out.cell (World.block_lt_of_cell? w _ hx279_0)).trans hx279_0
            replace hx279_1 := (HB.out.cell (World.block_lt_of_cell? w _ hx279_1)).trans hx279_1
            replace hx279_2 := (HB.out.cell (World.block_lt_of_cell? w _ hx279_2)).trans hx279_2
            replace p279 := eq_true p279
            replace q279 := eq_true q279
            go_wp2_with (first | ((with_reducible refine gate_dst (N := 6) rfl ?_); refine box_event ?hg (N := 6) ?hd (cs := #[.int .i64 0, .int .i64 0, .string (⟨#[]⟩ : ByteArray)]) (t := 42) ?hr ?_; (case hd => rfl); (case hg => rfl); (case hr => first | (go_simp; done) | (go_simp; rfl)); intro gb280 hg w7 hbox hb; have n0_ := Aside0.mk (below_step (by repeat (first | (with_reducible first | exact HB.out | apply below_alloc | apply pw_below_drewN | apply below_drew1) | exact HB.out)) hb); have n1_ := Aside0.mk (hbox); have n2_ := Aside0.mk ((by rw [hg]; exact (below_size (by repeat (first | (with_reducible first | exact HB.out | apply below_alloc | apply pw_below_drewN | apply below_drew1) | exact HB.out))) : w.heap.size ≤ gb280)); have n3_ := Aside0.mk ((by rw [hg]; exact (below_size (by repeat (first | (with_reducible first | exact HB.out | apply below_alloc | apply pw_below_drewN | apply below_drew1) | exact HB.out))) : w.heap.size ≤ gb280)); clear HB; have HB := n0_; have BK280 := n1_; have GW280 := n2_; have GE280 := n3_; clear n0_ n1_ n2_ n3_; clear hb hbox hg; have hcz8_0 : w7.cell? ⟨gb280, 0, none⟩ = some (.int .i64 0) := (blk_cell BK280.out 0).trans rfl; have hcz8_1 : w7.cell? ⟨gb280, 1, none⟩ = some (.int .i64 0) := (blk_cell BK280.out 1).trans rfl; have hcz8_2 : w7.cell? ⟨gb280, 2, none⟩ = some (.string (⟨#[]⟩ : ByteArray)) := (blk_cell BK280.out 2).trans rfl; have hfz8_0 := blk_frozen BK280.out 0; have hfz8_1 := blk_frozen BK280.out 1; have hfz8_2 := blk_frozen BK280.out 2) | ((with_reducible refine gate_callee (f := 34) rfl ?_); refine goesL_ (some 15) rfl rfl Try.func34 (by kernel_rfl) rfl #[.agg #[.int .i64 ((rd_T42 l1 x9_1).f0), .int .i64 ((rd_T42 l1 x9_1).f1), .string ((rd_T42 l1 x9_1).f2)]] rfl (by (try simp only [List.map_toArray, List.map_cons, List.map_nil]); first | done | rfl | (simp only [List.length_drop, List.length_take]; rfl)) ?_; (with_reducible refine (edits_grows.calls ((rd_T42 l1 x9_1).f0) ((rd_T42 l1 x9_1).f1) ((rd_T42 l1 x9_1).f2) t281 _ A6.out).mono ?_); rintro e w9 ⟨rfl, hb⟩; refine ⟨_, rfl, ?_⟩; have n0_ := Aside0.mk (blk_below (g := gb280) (o := .cells #[.int .i64 ((rd_T42 l1 x9_1).f0), .int .i64 ((rd_T42 l1 x9_1).f1), .string ((rd_T42 l1 x9_1).f2)] 42 (0, 0)) (by (with_reducible repeat (first | refine blk_drewN ?_ _ | refine blk_drew ?_ | refine blk_alloc ?_ _)); refine blk_put (cs := #[.int .i64 ((rd_T42 l1 x9_1).f0), .int .i64 ((rd_T42 l1 x9_1).f1), .string (⟨#[]⟩ : ByteArray)]) ?_ 2 _ rfl; (with_reducible repeat (first | refine blk_drewN ?_ _ | refine blk_drew ?_ | refine blk_alloc ?_ _)); refine blk_put (cs := #[.int .i64 ((rd_T42 l1 x9_1).f0), .int .i64 0, .string (⟨#[]⟩ : ByteArray)]) ?_ 1 _ rfl; (with_reducible repeat (first | refine blk_drewN ?_ _ | refine blk_drew ?_ | refine blk_alloc ?_ _)); refine blk_put (cs := #[.int .i64 0, .int .i64 0, .string (⟨#[]⟩ : ByteArray)]) ?_ 0 _ rfl; (with_reducible repeat (first | refine blk_drewN ?_ _ | refine blk_drew ?_ | refine blk_alloc ?_ _)); exact BK280.out) hb); have n1_ := Aside0.mk (below_step (by repeat (first | (with_reducible first | exact HB.out | apply below_alloc | apply pw_below_drewN | apply below_drew1 | refine below_set ?_ GE280.out) | exact HB.out)) hb); clear BK280; clear HB; have BK280 := n0_; have HB := n1_; clear n0_ n1_; (try clear hb); (try clear hb2); (try clear hk); (try clear hi)))
            go_roundg k1
            case measure => have := HK1.out; omega
            case rel => exact ⟨(wrap64 (x0_1 + t281)), (wrap64 (x9_1 + 1)), (by first | rfl | (simp; done) | (simp [*]; done)), (by first | rfl | (simp; done) | (simp [*]; done)), H', ⟨by have := HK1.out; omega⟩, ⟨by repeat (first | (with_reducible first | exact HB.out | apply below_alloc | apply pw_below_drewN | apply below_drew1 | refine below_set ?_ GE280.out) | exact HB.out)⟩⟩
          · rw [if_neg c5] at H
            exact absurd H (by simp)
        · rw [if_neg c4] at H
          exact absurd H (by simp)
      · rw [if_neg c3] at H
        have c3b0 : decide (x9_1 < (l1.length : Int)) = false := decide_eq_false c3
        clear c3
        obtain rfl := Option.some.inj H
        go_wp2
        go_ret
        exact ⟨by first | rfl | (simp [errW_none, errW_some] <;> rfl) | (simp [*, errW_none, errW_some] <;> rfl), by repeat (first | (with_reducible first | exact HB.out | apply below_alloc | apply pw_below_drewN | apply below_drew1) | exact HB.out)⟩

end Go.Proofs.Ytaihajmdngoeiaa.F

-- A text of this session's own program (wip/myprint.sh over a changed print tool): functions and their walks
namespace Go.Proofs.Ytaihajmdngoeiaa.F
open Go.RowKit Go.Proofs.YtaihajmdngoeiaaW.PrintWords Go.Proofs.YtaihajmdngoeiaaW.PrintLast Go.Proofs.YtaihajmdngoeiaaW.PrintMore
attribute [local go_sem] max2_int min2_int max_two min_two max_three min_three max_four min_four   -- for this text's walks alone
set_option linter.unusedVariables false
set_option linter.unusedSimpArgs false

/-! ### edits_Apply: function 24 -/
def edits_Apply.l0 : Nat → ByteArray → List Int → Int → List (S42) → Int → Int → Option (ByteArray × Int)
  | 0, _, _, _, _, _, _ => none
  | k + 1, x0, x7, x8, x23, x24, x25 => if x25 < x24 then (if 0 ≤ x25 then (if x25 < (x23.length : Int) then (if 0 ≤ x8 then (if x8 ≤ ((rd_T42 x23 x25).f0) then (if ((rd_T42 x23 x25).f0) ≤ (x0.size : Int) then (if x7.length + (x0.extract (x8 : Int).toNat (((rd_T42 x23 x25).f0) : Int).toNat).size < 140737488355328 then ((some (x7 ++ bytesOf (x0.extract (x8 : Int).toNat (((rd_T42 x23 x25).f0) : Int).toNat) : List Int)).bind fun y289 => (if y289.length + ((rd_T42 x23 x25).f2).size < 140737488355328 then (edits_Apply.l0 k x0 (y289 ++ bytesOf ((rd_T42 x23 x25).f2)) ((rd_T42 x23 x25).f1) x23 x24 (wrap64 (x25 + 1))) else (none))) else (none)) else (none)) else (none)) else (none)) else (none)) else (none)) else (if 0 ≤ x8 then (if x8 ≤ (x0.size : Int) then (if x7.length + (x0.extract (x8 : Int).toNat x0.size).size < 140737488355328 then (some (strOfNums (x7 ++ bytesOf (x0.extract (x8 : Int).toNat x0.size)), 0)) else (none)) else (none)) else (none))
def edits_Apply.f (k : Nat) (a0 : ByteArray) (l1 : List (S42)) : Option (ByteArray × Int) := (edits_valid.f k (a0.size : Int) l1).bind fun t282 => (if t282 = 0 then ((edits_left.f k (a0.size : Int) l1).bind fun t283 => (if 0 ≤ t283 then (if (t283 : Int).toNat ≤ 281474976710656 then (edits_Apply.l0 k a0 (([] : List Int)) 0 l1 (l1.length : Int) 0) else (none)) else (none))) else (some ((⟨#[]⟩ : ByteArray), t282)))
theorem edits_Apply.mono_l : ∀ k, (∀ y0 y1 y2 y3 y4 y5, LeO (edits_Apply.l0 k y0 y1 y2 y3 y4 y5) (edits_Apply.l0 (k + 1) y0 y1 y2 y3 y4 y5))
  | 0 => fun _ _ _ _ _ _ r h => by simp [edits_Apply.l0] at h
  | k + 1 => by
    have ih0 := edits_Apply.mono_l k
    · intro y0 y1 y2 y3 y4 y5
      unfold edits_Apply.l0
      repeat' first
      | (with_reducible exact ih0 _ _ _ _ _ _)
      | (with_reducible exact edits_left.mono _ _ _)
      | (with_reducible exact edits_valid.mono _ _ _)
      | (with_reducible exact LeO.refl _)
      | (with_reducible exact LeO.none _)
      | (with_reducible refine LeO.ite ?_ ?_)
      | (with_reducible refine LeO.bind ?_ (fun _ => ?_))
      | exact ih0 _ _ _ _ _ _
      | exact edits_left.mono _ _ _
      | exact edits_valid.mono _ _ _
      | exact LeO.none _
      | refine LeO.ite ?_ ?_
      | refine LeO.bind ?_ (fun _ => ?_)
theorem edits_Apply.mono : ∀ a0 a1 k, LeO (edits_Apply.f k a0 a1) (edits_Apply.f (k + 1) a0 a1) := by
  intro a0 a1 k
  have ih0 := edits_Apply.mono_l k
  unfold edits_Apply.f
  repeat' first
      | (with_reducible exact ih0 _ _ _ _ _ _)
      | (with_reducible exact edits_left.mono _ _ _)
      | (with_reducible exact edits_valid.mono _ _ _)
      | (with_reducible exact LeO.refl _)
      | (with_reducible exact LeO.none _)
      | (with_reducible refine LeO.ite ?_ ?_)
      | (with_reducible refine LeO.bind ?_ (fun _ => ?_))
      | exact ih0 _ _ _ _ _ _
      | exact edits_left.mono _ _ _
      | exact edits_valid.mono _ _ _
      | exact LeO.none _
      | refine LeO.ite ?_ ?_
      | refine LeO.bind ?_ (fun _ => ?_)
set_option maxHeartbeats 8000000 in
set_option maxRecDepth 100000 in
theorem edits_Apply.calls (k : Nat) (a0 : ByteArray) (A1 : Option Addr) (c1 : Nat) (l1 : List (S42)) (r1 : ByteArray) (r2 : Int) (w : World) (hr1 : Kd.C k42 w A1 l1.length l1) (hc1 : l1.length ≤ c1) (h : edits_Apply.f k a0 l1 = some (r1, r2)) :
    Calls Try.prog 24 #[.string a0, .slice A1 l1.length c1] w fun e w' => e = .returned (.tuple #[.string r1, .int .i64 r2]) ∧ Below w.heap.size w w' := by
  have hu42 := Try.underlying42
  have HR1 := Aside0.mk hr1
  have HC1 := Aside0.mk hc1
  clear hr1 hc1
  have HB := Aside0.mk (Below.refl w.heap.size w)
  have H : ((edits_valid.f k (a0.size : Int) l1).bind fun t282 => (if t282 = 0 then ((edits_left.f k (a0.size : Int) l1).bind fun t283 => (if 0 ≤ t283 then (if (t283 : Int).toNat ≤ 281474976710656 then (edits_Apply.l0 k a0 (([] : List Int)) 0 l1 (l1.length : Int) 0) else (none)) else (none))) else (some ((⟨#[]⟩ : ByteArray), t282)))) = some (r1, r2) := h
  clear h
  replace H := Option.bind_eq_some_iff.mp H
  obtain ⟨t282, A30, H⟩ := H
  replace H : (if t282 = 0 then ((edits_left.f k (a0.size : Int) l1).bind fun t283 => (if 0 ≤ t283 then (if (t283 : Int).toNat ≤ 281474976710656 then (edits_Apply.l0 k a0 (([] : List Int)) 0 l1 (l1.length : Int) 0) else (none)) else (none))) else (some ((⟨#[]⟩ : ByteArray), t282))) = some (r1, r2) := H
  have A3 := Aside0.mk A30
  clear A30
  by_cases c4 : t282 = 0
  · rw [if_pos c4] at H
    have c4b0 : (t282 == 0) = true := beq_iff_eq.mpr c4
    have c4b1 : (t282 != 0) = false := bne_eq_false_iff_eq.mpr c4
    clear c4
    replace H := Option.bind_eq_some_iff.mp H
    obtain ⟨t283, A50, H⟩ := H
    replace H : (if 0 ≤ t283 then (if (t283 : Int).toNat ≤ 281474976710656 then (edits_Apply.l0 k a0 (([] : List Int)) 0 l1 (l1.length : Int) 0) else (none)) else (none)) = some (r1, r2) := H
    have A5 := Aside0.mk A50
    clear A50
    by_cases c6 : 0 ≤ t283
    · rw [if_pos c6] at H
      have c6b0 := eq_true c6
      have c6b1 : decide (0 ≤ t283) = true := decide_eq_true c6
      clear c6
      by_cases c7 : (t283 : Int).toNat ≤ 281474976710656
      · rw [if_pos c7] at H
        have c7b0 := eq_true c7
        have c7b1 : decide ((t283 : Int).toNat ≤ 281474976710656) = true := decide_eq_true c7
        clear c7
        obtain ⟨y284, hy284⟩ : ∃ y_ : List Int, y_ = (([] : List Int)) := ⟨_, rfl⟩
        replace H : (edits_Apply.l0 k a0 y284 0 l1 (l1.length : Int) 0) = some (r1, r2) := by first | (rw [hy284]; with_reducible exact H) | (have H2_ := (Option.bind_some _ _).symm.trans H; rw [hy284]; with_reducible exact H2_) | (have H2_ := (Option.bind_some _ _).symm.trans H; with_reducible exact H2_) | with_reducible exact H | (rw [hy284]; exact H) | exact H
        have Ny284 := Aside0.mk hy284
        clear hy284
        have H' := Aside0.mk H
        clear H
        go_enter Try.func24, Try.ntmps24
        go_wp2_with (first | ((with_reducible refine gate_callee (f := 32) rfl ?_); refine goesL_ (some 14) rfl rfl Try.func32 (by kernel_rfl) rfl #[.int .i64 (a0.size : Int), .slice A1 l1.length c1] rfl (by (try simp only [List.map_toArray, List.map_cons, List.map_nil]); first | done | rfl | (simp only [List.length_drop, List.length_take]; rfl)) ?_; (with_reducible refine (edits_valid.calls k (a0.size : Int) _ _ l1 t282 _ ?side1 ?side2 A3.out).mono ?_); (case side1 => repeat (first | exact HR1.out | (with_reducible refine Kd.C_alloc ?_ _) | (with_reducible refine Kd.C_drewN ?_ _) | (with_reducible refine Kd.C_drew ?_))); (case side2 => exact HC1.out); rintro e w8 ⟨rfl, hb⟩; refine ⟨_, rfl, ?_⟩; have n0_ := Aside0.mk (below_step (by repeat (first | (with_reducible first | exact HB.out | apply below_alloc | apply pw_below_drewN | apply below_drew1) | exact HB.out)) hb); clear HB; have HB := n0_; clear n0_; (try clear hb); (try clear hb2); (try clear hk); (try clear hi)) | ((with_reducible refine gate_callee (f := 38) rfl ?_); refine goesL_ (some 21) rfl rfl Try.func38 (by kernel_rfl) rfl #[.int .i64 (a0.size : Int), .slice A1 l1.length c1] rfl (by (try simp only [List.map_toArray, List.map_cons, List.map_nil]); first | done | rfl | (simp only [List.length_drop, List.length_take]; rfl)) ?_; (with_reducible refine (edits_left.calls k (a0.size : Int) _ _ l1 t283 _ ?side1 ?side2 A5.out).mono ?_); (case side1 => repeat (first | exact (Kd.C_below HR1.out HB.out) | (with_reducible refine Kd.C_alloc ?_ _) | (with_reducible refine Kd.C_drewN ?_ _) | (with_reducible refine Kd.C_drew ?_))); (case side2 => exact HC1.out); rintro e w9 ⟨rfl, hb⟩; refine ⟨_, rfl, ?_⟩; have n0_ := Aside0.mk (below_step (by repeat (first | (with_reducible first | exact HB.out | apply below_alloc | apply pw_below_drewN | apply below_drew1) | exact HB.out)) hb); clear HB; have HB := n0_; clear n0_; (try clear hb); (try clear hb2); (try clear hk); (try clear hi)) | ((with_reducible refine gate_dst (N := 22) rfl ?_); refine Kd.R_makec (Kd.int .u8) _ 5 rfl (N := 22) rfl 53 _ _ rfl t283 rfl rfl Try.underlying53 (.int .u8 0) 1 info5 rfl (by decide) (by omega) 0 (ok := fun _ => True) (okp := fun _ => True) rfl (fun _ hk => hk) trivial (of_decide_eq_true (by first | (with_reducible assumption) | assumption)) (Nat.le_trans (Nat.mul_le_mul_right _ (of_decide_eq_true (by first | (with_reducible assumption) | assumption) : t283.toNat ≤ 281474976710656)) (by omega)) (Below.refl _ _) (Nat.le_refl _) ?_; intro v285 w10 ho11 hb hg_ hnew_; clear hg_ hnew_; (first | rw [← Ny284.out] at ho11 | (simp only [Int.reduceToNat] at ho11; rw [← Ny284.out] at ho11)); have n0_ := Aside0.mk (Kd.R_lower ho11 (below_size (by repeat (first | (with_reducible first | exact HB.out | apply below_alloc | apply pw_below_drewN | apply below_drew1) | exact HB.out)))); have n1_ := Aside0.mk (below_step (by repeat (first | (with_reducible first | exact HB.out | apply below_alloc | apply pw_below_drewN | apply below_drew1) | exact HB.out)) hb); clear HB; have HO286 := n0_; have HB := n1_; clear n0_ n1_; clear hb ho11))
        go_loopg [7, 8, 25] k (fun kq v7 v8 v25 w' => ∃ (x7_1 : List Int) (x8_1 : Int) (x25_1 : Int), v8 = .int .i64 x8_1 ∧ v25 = .int .i64 x25_1 ∧ Aside0 (edits_Apply.l0 kq a0 x7_1 x8_1 l1 (l1.length : Int) x25_1 = some (r1, r2)) ∧ Aside0 (kq ≤ k) ∧ Aside0 (Kd.R (Kd.int .u8) 5 w' w.heap.size (fun _ => True) v7 x7_1) ∧ Aside0 (Below w.heap.size w w'))
        case atStart => exact ⟨(y284), (0), (0), (by first | rfl | (simp; done) | (simp [*]; done)), (by first | rfl | (simp; done) | (simp [*]; done)), H', ⟨Nat.le_refl _⟩, ⟨by (with_reducible repeat (first | apply Kd.R_alloc | apply Kd.R_drewN | apply Kd.R_drew)); exact HO286.out⟩, ⟨by repeat (first | (with_reducible first | exact HB.out | apply below_alloc | apply pw_below_drewN | apply below_drew1) | exact HB.out)⟩⟩
        case round =>
          clear H'
          try clear c1
          try clear c2
          try clear p2
          try clear c3
          try clear c4
          try clear c4b0
          try clear c4b1
          try clear c6
          try clear c6b0
          try clear c6b1
          try clear c7
          try clear c7b0
          try clear c7b1
          obtain ⟨x7_1, x8_1, x25_1, rfl, rfl, HA, HK1, HO_7, HB⟩ := hrel
          cases gk with
          | zero => exact absurd HA.out (by simp [edits_Apply.l0])
          | succ k1 =>
            have H := HA.out
            clear HA
            simp only [edits_Apply.l0] at H
            by_cases c12 : x25_1 < (l1.length : Int)
            · rw [if_pos c12] at H
              have c12b0 : decide (x25_1 < (l1.length : Int)) = true := decide_eq_true c12
              clear c12
              by_cases c13 : 0 ≤ x25_1
              · rw [if_pos c13] at H
                have c13b0 : decide (0 ≤ x25_1) = true := decide_eq_true c13
                clear c13
                by_cases c14 : x25_1 < (l1.length : Int)
                · rw [if_pos c14] at H
                  have c14b0 : decide (x25_1 < (l1.length : Int)) = true := decide_eq_true c14
                  clear c14
                  by_cases c15 : 0 ≤ x8_1
                  · rw [if_pos c15] at H
                    have c15b0 := eq_true c15
                    have c15b1 : decide (0 ≤ x8_1) = true := decide_eq_true c15
                    clear c15
                    by_cases c16 : x8_1 ≤ ((rd_T42 l1 x25_1).f0)
                    · rw [if_pos c16] at H
                      have c16b0 := eq_true c16
                      have c16b1 : decide (x8_1 ≤ ((rd_T42 l1 x25_1).f0)) = true := decide_eq_true c16
                      clear c16
                      by_cases c17 : ((rd_T42 l1 x25_1).f0) ≤ (a0.size : Int)
                      · rw [if_pos c17] at H
                        have c17b0 := eq_true c17
                        have c17b1 : decide (((rd_T42 l1 x25_1).f0) ≤ (a0.size : Int)) = true := decide_eq_true c17
                        clear c17
                        by_cases c18 : x7_1.length + (a0.extract (x8_1 : Int).toNat (((rd_T42 l1 x25_1).f0) : Int).toNat).size < 140737488355328
                        · rw [if_pos c18] at H
                          have LMc18 := Aside0.mk c18
                          clear c18
                          obtain ⟨y289, hy289⟩ : ∃ y_ : List Int, y_ = (x7_1 ++ bytesOf (a0.extract (x8_1 : Int).toNat (((rd_T42 l1 x25_1).f0) : Int).toNat)) := ⟨_, rfl⟩
                          replace H : (if y289.length + ((rd_T42 l1 x25_1).f2).size < 140737488355328 then (edits_Apply.l0 k1 a0 (y289 ++ bytesOf ((rd_T42 l1 x25_1).f2)) ((rd_T42 l1 x25_1).f1) l1 (l1.length : Int) (wrap64 (x25_1 + 1))) else (none)) = some (r1, r2) := by first | (rw [hy289]; with_reducible exact H) | (have H2_ := (Option.bind_some _ _).symm.trans H; rw [hy289]; with_reducible exact H2_) | (have H2_ := (Option.bind_some _ _).symm.trans H; with_reducible exact H2_) | with_reducible exact H | (rw [hy289]; exact H) | exact H
                          have Ny289 := Aside0.mk hy289
                          clear hy289
                          by_cases c19 : y289.length + ((rd_T42 l1 x25_1).f2).size < 140737488355328
                          · rw [if_pos c19] at H
                            have LMc19 := Aside0.mk c19
                            clear c19
                            obtain ⟨y292, hy292⟩ : ∃ y_ : List Int, y_ = (y289 ++ bytesOf ((rd_T42 l1 x25_1).f2)) := ⟨_, rfl⟩
                            replace H : (edits_Apply.l0 k1 a0 y292 ((rd_T42 l1 x25_1).f1) l1 (l1.length : Int) (wrap64 (x25_1 + 1))) = some (r1, r2) := by first | (rw [hy292]; with_reducible exact H) | (have H2_ := (Option.bind_some _ _).symm.trans H; rw [hy292]; with_reducible exact H2_) | (have H2_ := (Option.bind_some _ _).symm.trans H; with_reducible exact H2_) | with_reducible exact H | (rw [hy292]; exact H) | exact H
                            have Ny292 := Aside0.mk hy292
                            clear hy292
                            have H' := Aside0.mk H
                            clear H
                            have p287 : 0 ≤ (x25_1 : Int) := of_decide_eq_true (by first | (with_reducible assumption) | assumption)
                            have q287 : x25_1 < (l1.length : Int) := of_decide_eq_true (by first | (with_reducible assumption) | assumption)
                            obtain ⟨ad287, e287, hx287_0, hx287_1, hx287_2⟩ := at_T42 HR1.out x25_1 p287 q287
                            cases e287
                            replace hx287_0 := (HB.out.cell (World.block_lt_of_cell? w _ hx287_0)).trans hx287_0
                            replace hx287_1 := (HB.out.cell (World.block_lt_of_cell? w _ hx287_1)).trans hx287_1
                            replace hx287_2 := (HB.out.cell (World.block_lt_of_cell? w _ hx287_2)).trans hx287_2
                            replace p287 := eq_true p287
                            replace q287 := eq_true q287
                            go_wp2_with (first | ((with_reducible refine gate_dst (N := 10) rfl ?_); refine box_event ?hg (N := 10) ?hd (cs := #[.int .i64 0, .int .i64 0, .string (⟨#[]⟩ : ByteArray)]) (t := 42) ?hr ?_; (case hd => rfl); (case hg => rfl); (case hr => first | (go_simp; done) | (go_simp; rfl)); intro gb288 hg w20 hbox hb; have n0_ := Aside0.mk (Kd.R_below (by (with_reducible repeat (first | apply Kd.R_alloc | apply Kd.R_drewN | apply Kd.R_drew)); exact HO_7.out) hb); have n1_ := Aside0.mk (below_step (by repeat (first | (with_reducible first | exact HB.out | apply below_alloc | apply pw_below_drewN | apply below_drew1) | exact HB.out)) hb); have n2_ := Aside0.mk (hbox); have n3_ := Aside0.mk ((by rw [hg]; exact (below_size (by repeat (first | (with_reducible first | exact HB.out | apply below_alloc | apply pw_below_drewN | apply below_drew1) | exact HB.out))) : w.heap.size ≤ gb288)); have n4_ := Aside0.mk ((by rw [hg]; exact (below_size (by repeat (first | (with_reducible first | exact HB.out | apply below_alloc | apply pw_below_drewN | apply below_drew1) | exact HB.out))) : w.heap.size ≤ gb288)); clear HO_7; clear HB; have HO_7 := n0_; have HB := n1_; have BK288 := n2_; have GW288 := n3_; have GE288 := n4_; clear n0_ n1_ n2_ n3_ n4_; clear hb hbox hg; have hcz21_0 : w20.cell? ⟨gb288, 0, none⟩ = some (.int .i64 0) := (blk_cell BK288.out 0).trans rfl; have hcz21_1 : w20.cell? ⟨gb288, 1, none⟩ = some (.int .i64 0) := (blk_cell BK288.out 1).trans rfl; have hcz21_2 : w20.cell? ⟨gb288, 2, none⟩ = some (.string (⟨#[]⟩ : ByteArray)) := (blk_cell BK288.out 2).trans rfl; have hfz21_0 := blk_frozen BK288.out 0; have hfz21_1 := blk_frozen BK288.out 1; have hfz21_2 := blk_frozen BK288.out 2) | (at_builtin; refine print_append_str (w0 := w) w.heap.size rfl (.tmp 29) _ 53 9 5 rfl Try.underlying53 Try.underlying9 info5 u7 x7_1 (a0.extract (x8_1 : Int).toNat (((rd_T42 l1 x25_1).f0) : Int).toNat) rfl rfl ?aO ?aB ?aS ?aL ?_; (case aB => exact (by repeat (first | (with_reducible first | exact HB.out | apply below_alloc | apply pw_below_drewN | apply below_drew1 | refine below_set ?_ GE288.out) | exact HB.out))); (case aO => exact (Kd.own_of_R (by (with_reducible repeat (first | apply Kd.R_alloc | apply Kd.R_drewN | apply Kd.R_drew)); exact Kd.R_mono (Kd.R_far (p := ⟨gb288, 2, none⟩) (Kd.R_far (p := ⟨gb288, 1, none⟩) (Kd.R_far (p := ⟨gb288, 0, none⟩) (Kd.R_types HO_7.out BK288.out (by decide)) (fun _ hk => hk.2) (.int .i64 ((rd_T42 l1 x25_1).f0))) (fun _ hk => hk.2) (.int .i64 ((rd_T42 l1 x25_1).f1))) (fun _ hk => hk.2) (.string ((rd_T42 l1 x25_1).f2))) (fun _ hk => trivial)))); (case aS => exact (below_size (by repeat (first | (with_reducible first | exact HB.out | apply below_alloc | apply pw_below_drewN | apply below_drew1 | refine below_set ?_ GE288.out) | exact HB.out)))); (case aL => have := LMc18.out; omega); intro v290 w22 ho0 hb hg; have ho := Kd.R_of_own (h1 := fun _ => rfl) (ok := fun _ => True) ho0 (fun _ _ => trivial); clear ho0; have hat := True.intro; rw [← Ny289.out] at ho; change Kd.R (Kd.int .u8) 5 w22 w.heap.size (fun _ => True) v290 y289 at ho; have n0_ := Aside0.mk (blk_grown (g := gb288) (o := .cells #[.int .i64 ((rd_T42 l1 x25_1).f0), .int .i64 ((rd_T42 l1 x25_1).f1), .string ((rd_T42 l1 x25_1).f2)] 42 (0, 0)) (by (with_reducible repeat (first | refine blk_drewN ?_ _ | refine blk_drew ?_ | refine blk_alloc ?_ _)); refine blk_put (cs := #[.int .i64 ((rd_T42 l1 x25_1).f0), .int .i64 ((rd_T42 l1 x25_1).f1), .string (⟨#[]⟩ : ByteArray)]) ?_ 2 _ rfl; (with_reducible repeat (first | refine blk_drewN ?_ _ | refine blk_drew ?_ | refine blk_alloc ?_ _)); refine blk_put (cs := #[.int .i64 ((rd_T42 l1 x25_1).f0), .int .i64 0, .string (⟨#[]⟩ : ByteArray)]) ?_ 1 _ rfl; (with_reducible repeat (first | refine blk_drewN ?_ _ | refine blk_drew ?_ | refine blk_alloc ?_ _)); refine blk_put (cs := #[.int .i64 0, .int .i64 0, .string (⟨#[]⟩ : ByteArray)]) ?_ 0 _ rfl; (with_reducible repeat (first | refine blk_drewN ?_ _ | refine blk_drew ?_ | refine blk_alloc ?_ _)); exact BK288.out) hg (Kd.R_ne HO_7.out BK288.out (by decide))); have n1_ := Aside0.mk (hb); have n2_ := Aside0.mk (ho); clear BK288; clear HB; clear HO_7; have BK288 := n0_; have HB := n1_; have HO291 := n2_; clear n0_ n1_ n2_; clear ho hb hg hat; have hcz23_0 : w22.cell? ⟨gb288, 0, none⟩ = some (.int .i64 ((rd_T42 l1 x25_1).f0)) := (blk_cell BK288.out 0).trans rfl; have hcz23_1 : w22.cell? ⟨gb288, 1, none⟩ = some (.int .i64 ((rd_T42 l1 x25_1).f1)) := (blk_cell BK288.out 1).trans rfl; have hcz23_2 : w22.cell? ⟨gb288, 2, none⟩ = some (.string ((rd_T42 l1 x25_1).f2)) := (blk_cell BK288.out 2).trans rfl; have hfz23_0 := blk_frozen BK288.out 0; have hfz23_1 := blk_frozen BK288.out 1; have hfz23_2 := blk_frozen BK288.out 2) | (at_builtin; refine print_append_str (w0 := w) w.heap.size rfl (.tmp 36) _ 53 9 5 rfl Try.underlying53 Try.underlying9 info5 v290 y289 ((rd_T42 l1 x25_1).f2) rfl rfl ?aO ?aB ?aS ?aL ?_; (case aB => exact (by repeat (first | (with_reducible first | exact HB.out | apply below_alloc | apply pw_below_drewN | apply below_drew1 | refine below_set ?_ GE288.out) | exact HB.out))); (case aO => exact (Kd.own_of_R (by (with_reducible repeat (first | apply Kd.R_alloc | apply Kd.R_drewN | apply Kd.R_drew)); exact HO291.out))); (case aS => exact (below_size (by repeat (first | (with_reducible first | exact HB.out | apply below_alloc | apply pw_below_drewN | apply below_drew1 | refine below_set ?_ GE288.out) | exact HB.out)))); (case aL => have := LMc19.out; omega); intro v293 w24 ho0 hb hg; have ho := Kd.R_of_own (h1 := fun _ => rfl) (ok := fun _ => True) ho0 (fun _ _ => trivial); clear ho0; have hat := True.intro; rw [← Ny292.out] at ho; change Kd.R (Kd.int .u8) 5 w24 w.heap.size (fun _ => True) v293 y292 at ho; have n0_ := Aside0.mk (blk_grown (g := gb288) (o := .cells #[.int .i64 ((rd_T42 l1 x25_1).f0), .int .i64 ((rd_T42 l1 x25_1).f1), .string ((rd_T42 l1 x25_1).f2)] 42 (0, 0)) (by (with_reducible repeat (first | refine blk_drewN ?_ _ | refine blk_drew ?_ | refine blk_alloc ?_ _)); exact BK288.out) hg (Kd.R_ne HO291.out BK288.out (by decide))); have n1_ := Aside0.mk (hb); have n2_ := Aside0.mk (ho); clear BK288; clear HB; clear HO291; have BK288 := n0_; have HB := n1_; have HO294 := n2_; clear n0_ n1_ n2_; clear ho hb hg hat; have hcz25_0 : w24.cell? ⟨gb288, 0, none⟩ = some (.int .i64 ((rd_T42 l1 x25_1).f0)) := (blk_cell BK288.out 0).trans rfl; have hcz25_1 : w24.cell? ⟨gb288, 1, none⟩ = some (.int .i64 ((rd_T42 l1 x25_1).f1)) := (blk_cell BK288.out 1).trans rfl; have hcz25_2 : w24.cell? ⟨gb288, 2, none⟩ = some (.string ((rd_T42 l1 x25_1).f2)) := (blk_cell BK288.out 2).trans rfl; have hfz25_0 := blk_frozen BK288.out 0; have hfz25_1 := blk_frozen BK288.out 1; have hfz25_2 := blk_frozen BK288.out 2))
                            go_roundg k1
                            case measure => have := HK1.out; omega
                            case rel => exact ⟨(y292), ((rd_T42 l1 x25_1).f1), (wrap64 (x25_1 + 1)), (by first | rfl | (simp; done) | (simp [*]; done)), (by first | rfl | (simp; done) | (simp [*]; done)), H', ⟨by have := HK1.out; omega⟩, ⟨by (with_reducible repeat (first | apply Kd.R_alloc | apply Kd.R_drewN | apply Kd.R_drew)); exact HO294.out⟩, ⟨by repeat (first | (with_reducible first | exact HB.out | apply below_alloc | apply pw_below_drewN | apply below_drew1 | refine below_set ?_ GE288.out) | exact HB.out)⟩⟩
                          · rw [if_neg c19] at H
                            exact absurd H (by simp)
                        · rw [if_neg c18] at H
                          exact absurd H (by simp)
                      · rw [if_neg c17] at H
                        exact absurd H (by simp)
                    · rw [if_neg c16] at H
                      exact absurd H (by simp)
                  · rw [if_neg c15] at H
                    exact absurd H (by simp)
                · rw [if_neg c14] at H
                  exact absurd H (by simp)
              · rw [if_neg c13] at H
                exact absurd H (by simp)
            · rw [if_neg c12] at H
              have c12b0 : decide (x25_1 < (l1.length : Int)) = false := decide_eq_false c12
              clear c12
              by_cases c26 : 0 ≤ x8_1
              · rw [if_pos c26] at H
                have c26b0 := eq_true c26
                have c26b1 : decide (0 ≤ x8_1) = true := decide_eq_true c26
                clear c26
                by_cases c27 : x8_1 ≤ (a0.size : Int)
                · rw [if_pos c27] at H
                  have c27b0 := eq_true c27
                  have c27b1 : decide (x8_1 ≤ (a0.size : Int)) = true := decide_eq_true c27
                  clear c27
                  by_cases c28 : x7_1.length + (a0.extract (x8_1 : Int).toNat a0.size).size < 140737488355328
                  · rw [if_pos c28] at H
                    have LMc28 := Aside0.mk c28
                    clear c28
                    obtain ⟨y295, hy295⟩ : ∃ y_ : List Int, y_ = (x7_1 ++ bytesOf (a0.extract (x8_1 : Int).toNat a0.size)) := ⟨_, rfl⟩
                    replace H : (some (strOfNums y295, 0)) = some (r1, r2) := by first | (rw [hy295]; with_reducible exact H) | (have H2_ := (Option.bind_some _ _).symm.trans H; rw [hy295]; with_reducible exact H2_) | (have H2_ := (Option.bind_some _ _).symm.trans H; with_reducible exact H2_) | with_reducible exact H | (rw [hy295]; exact H) | exact H
                    have Ny295 := Aside0.mk hy295
                    clear hy295
                    simp only [Option.some.injEq, Prod.mk.injEq] at H
                    obtain ⟨rfl, rfl⟩ := H
                    go_wp2_with (first | (at_builtin; refine print_append_str (w0 := w) w.heap.size rfl (.tmp 43) _ 53 9 5 rfl Try.underlying53 Try.underlying9 info5 u7 x7_1 (a0.extract (x8_1 : Int).toNat a0.size) rfl rfl ?aO ?aB ?aS ?aL ?_; (case aB => exact (by repeat (first | (with_reducible first | exact HB.out | apply below_alloc | apply pw_below_drewN | apply below_drew1) | exact HB.out))); (case aO => exact (Kd.own_of_R (by (with_reducible repeat (first | apply Kd.R_alloc | apply Kd.R_drewN | apply Kd.R_drew)); exact HO_7.out))); (case aS => exact (below_size (by repeat (first | (with_reducible first | exact HB.out | apply below_alloc | apply pw_below_drewN | apply below_drew1) | exact HB.out)))); (case aL => have := LMc28.out; omega); intro v296 w29 ho0 hb hg; have ho := Kd.R_of_own (h1 := fun _ => rfl) (ok := fun _ => True) ho0 (fun _ _ => trivial); clear ho0; have hat := True.intro; rw [← Ny295.out] at ho; change Kd.R (Kd.int .u8) 5 w29 w.heap.size (fun _ => True) v296 y295 at ho; have n0_ := Aside0.mk (hb); have n1_ := Aside0.mk (ho); clear HB; clear HO_7; have HB := n0_; have HO297 := n1_; clear n0_ n1_; clear ho hb hg hat; have hcv30 := own_string (P := Try.prog) Try.underlying53 Try.underlying5 Try.underlying9 (Kd.own_of_R HO297.out)))
                    go_ret2
                    exact ⟨by first | rfl | (simp [errW_none, errW_some] <;> rfl) | (simp [*, errW_none, errW_some] <;> rfl), by repeat (first | (with_reducible first | exact HB.out | apply below_alloc | apply pw_below_drewN | apply below_drew1) | exact HB.out)⟩
                  · rw [if_neg c28] at H
                    exact absurd H (by simp)
                · rw [if_neg c27] at H
                  exact absurd H (by simp)
              · rw [if_neg c26] at H
                exact absurd H (by simp)
      · rw [if_neg c7] at H
        exact absurd H (by simp)
    · rw [if_neg c6] at H
      exact absurd H (by simp)
  · rw [if_neg c4] at H
    have c4b0 : (t282 == 0) = false := beq_eq_false_iff_ne.mpr c4
    have c4b1 : (t282 != 0) = true := bne_iff_ne.mpr c4
    simp only [Option.some.injEq, Prod.mk.injEq] at H
    obtain ⟨rfl, rfl⟩ := H
    go_enter Try.func24, Try.ntmps24
    go_wp2_with (first | ((with_reducible refine gate_callee (f := 32) rfl ?_); refine goesL_ (some 14) rfl rfl Try.func32 (by kernel_rfl) rfl #[.int .i64 (a0.size : Int), .slice A1 l1.length c1] rfl (by (try simp only [List.map_toArray, List.map_cons, List.map_nil]); first | done | rfl | (simp only [List.length_drop, List.length_take]; rfl)) ?_; (with_reducible refine (edits_valid.calls k (a0.size : Int) _ _ l1 t282 _ ?side1 ?side2 A3.out).mono ?_); (case side1 => repeat (first | exact HR1.out | (with_reducible refine Kd.C_alloc ?_ _) | (with_reducible refine Kd.C_drewN ?_ _) | (with_reducible refine Kd.C_drew ?_))); (case side2 => exact HC1.out); rintro e w31 ⟨rfl, hb⟩; refine ⟨_, rfl, ?_⟩; have n0_ := Aside0.mk (below_step (by repeat (first | (with_reducible first | exact HB.out | apply below_alloc | apply pw_below_drewN | apply below_drew1) | exact HB.out)) hb); clear HB; have HB := n0_; clear n0_; (try clear hb); (try clear hb2); (try clear hk); (try clear hi)))
    go_ret2
    exact ⟨by first | rfl | (simp [errW_none, errW_some] <;> rfl) | (simp [*, errW_none, errW_some] <;> rfl), by repeat (first | (with_reducible first | exact HB.out | apply below_alloc | apply pw_below_drewN | apply below_drew1) | exact HB.out)⟩

end Go.Proofs.Ytaihajmdngoeiaa.F

-- A text of this session's own program (wip/myprint.sh over a changed print tool): functions and their walks
namespace Go.Proofs.Ytaihajmdngoeiaa.F
open Go.RowKit Go.Proofs.YtaihajmdngoeiaaW.PrintWords Go.Proofs.YtaihajmdngoeiaaW.PrintLast Go.Proofs.YtaihajmdngoeiaaW.PrintMore
attribute [local go_sem] max2_int min2_int max_two min_two max_three min_three max_four min_four   -- for this text's walks alone
set_option linter.unusedVariables false
set_option linter.unusedSimpArgs false

/-! ### monikerref1_Apply: function 25 -/
def monikerref1_Apply.f (k : Nat) (a0 : ByteArray) (l1 : List (S42)) : Option (ByteArray × Int) := (monikerref1_valid.f k (a0.size : Int) l1).bind fun t298 => (if t298 = 0 then ((monikerref1_Whole.f (a0.size : Int)).bind fun t299 => ((monikerref1_Done.f k t299 l1).bind fun t302 => ((monikerref1_said.f k a0 t302).bind fun t305 => (some (t305, 0))))) else (some ((⟨#[]⟩ : ByteArray), t298)))
theorem monikerref1_Apply.mono : ∀ a0 a1 k, LeO (monikerref1_Apply.f k a0 a1) (monikerref1_Apply.f (k + 1) a0 a1) := by
  intro a0 a1 k
  unfold monikerref1_Apply.f
  repeat' first
      | (with_reducible exact monikerref1_Done.mono _ _ _)
      | (with_reducible exact monikerref1_said.mono _ _ _)
      | (with_reducible exact monikerref1_valid.mono _ _ _)
      | (with_reducible exact LeO.refl _)
      | (with_reducible exact LeO.none _)
      | (with_reducible refine LeO.ite ?_ ?_)
      | (with_reducible refine LeO.bind ?_ (fun _ => ?_))
      | exact monikerref1_Done.mono _ _ _
      | exact monikerref1_said.mono _ _ _
      | exact monikerref1_valid.mono _ _ _
      | exact LeO.none _
      | refine LeO.ite ?_ ?_
      | refine LeO.bind ?_ (fun _ => ?_)
set_option maxHeartbeats 8000000 in
set_option maxRecDepth 100000 in
theorem monikerref1_Apply.calls (k : Nat) (a0 : ByteArray) (A1 : Option Addr) (c1 : Nat) (l1 : List (S42)) (r1 : ByteArray) (r2 : Int) (w : World) (hr1 : Kd.C k42 w A1 l1.length l1) (hc1 : l1.length ≤ c1) (h : monikerref1_Apply.f k a0 l1 = some (r1, r2)) :
    Calls Try.prog 25 #[.string a0, .slice A1 l1.length c1] w fun e w' => e = .returned (.tuple #[.string r1, .int .i64 r2]) ∧ Below w.heap.size w w' := by
  have HR1 := Aside0.mk hr1
  have HC1 := Aside0.mk hc1
  clear hr1 hc1
  have HB := Aside0.mk (Below.refl w.heap.size w)
  have H : ((monikerref1_valid.f k (a0.size : Int) l1).bind fun t298 => (if t298 = 0 then ((monikerref1_Whole.f (a0.size : Int)).bind fun t299 => ((monikerref1_Done.f k t299 l1).bind fun t302 => ((monikerref1_said.f k a0 t302).bind fun t305 => (some (t305, 0))))) else (some ((⟨#[]⟩ : ByteArray), t298)))) = some (r1, r2) := h
  clear h
  replace H := Option.bind_eq_some_iff.mp H
  obtain ⟨t298, A30, H⟩ := H
  replace H : (if t298 = 0 then ((monikerref1_Whole.f (a0.size : Int)).bind fun t299 => ((monikerref1_Done.f k t299 l1).bind fun t302 => ((monikerref1_said.f k a0 t302).bind fun t305 => (some (t305, 0))))) else (some ((⟨#[]⟩ : ByteArray), t298))) = some (r1, r2) := H
  have A3 := Aside0.mk A30
  clear A30
  by_cases c4 : t298 = 0
  · rw [if_pos c4] at H
    have c4b0 : (t298 == 0) = true := beq_iff_eq.mpr c4
    have c4b1 : (t298 != 0) = false := bne_eq_false_iff_eq.mpr c4
    clear c4
    replace H := Option.bind_eq_some_iff.mp H
    obtain ⟨t299, A50, H⟩ := H
    replace H : ((monikerref1_Done.f k t299 l1).bind fun t302 => ((monikerref1_said.f k a0 t302).bind fun t305 => (some (t305, 0)))) = some (r1, r2) := H
    have A5 := Aside0.mk A50
    clear A50
    replace H := Option.bind_eq_some_iff.mp H
    obtain ⟨t302, A60, H⟩ := H
    replace H : ((monikerref1_said.f k a0 t302).bind fun t305 => (some (t305, 0))) = some (r1, r2) := H
    have A6 := Aside0.mk A60
    clear A60
    replace H := Option.bind_eq_some_iff.mp H
    obtain ⟨t305, A70, H⟩ := H
    replace H : (some (t305, 0)) = some (r1, r2) := H
    have A7 := Aside0.mk A70
    clear A70
    simp only [Option.some.injEq, Prod.mk.injEq] at H
    obtain ⟨rfl, rfl⟩ := H
    go_enter Try.func25, Try.ntmps25
    go_wp2_with (first | ((with_reducible refine gate_callee (f := 33) rfl ?_); refine goesL_ (some 10) rfl rfl Try.func33 (by kernel_rfl) rfl #[.int .i64 (a0.size : Int), .slice A1 l1.length c1] rfl (by (try simp only [List.map_toArray, List.map_cons, List.map_nil]); first | done | rfl | (simp only [List.length_drop, List.length_take]; rfl)) ?_; (with_reducible refine (monikerref1_valid.calls k (a0.size : Int) _ _ l1 t298 _ ?side1 ?side2 A3.out).mono ?_); (case side1 => repeat (first | exact HR1.out | (with_reducible refine Kd.C_alloc ?_ _) | (with_reducible refine Kd.C_drewN ?_ _) | (with_reducible refine Kd.C_drew ?_))); (case side2 => exact HC1.out); rintro e w8 ⟨rfl, hb⟩; refine ⟨_, rfl, ?_⟩; have n0_ := Aside0.mk (below_step (by repeat (first | (with_reducible first | exact HB.out | apply below_alloc | apply pw_below_drewN | apply below_drew1) | exact HB.out)) hb); clear HB; have HB := n0_; clear n0_; (try clear hb); (try clear hb2); (try clear hk); (try clear hi)) | ((with_reducible refine gate_callee (f := 37) rfl ?_); refine goesL_ (some 17) rfl rfl Try.func37 (by kernel_rfl) rfl #[.int .i64 (a0.size : Int)] rfl (by (try simp only [List.map_toArray, List.map_cons, List.map_nil]); first | done | rfl | (simp only [List.length_drop, List.length_take]; rfl)) ?_; (with_reducible refine (monikerref1_Whole.calls (a0.size : Int) t299 _ A5.out).mono ?_); rintro e w9 ⟨v300, rfl, ho0, hb⟩; refine ⟨_, rfl, ?_⟩; have n0_ := Aside0.mk (Kd.R_lower ho0 (below_size (by repeat (first | (with_reducible first | exact HB.out | apply below_alloc | apply pw_below_drewN | apply below_drew1) | exact HB.out)))); have n1_ := Aside0.mk (below_step (by repeat (first | (with_reducible first | exact HB.out | apply below_alloc | apply pw_below_drewN | apply below_drew1) | exact HB.out)) hb); clear HB; have HO301 := n0_; have HB := n1_; clear n0_ n1_; (try clear hb); (try clear hb2); (try clear hk); (try clear hi); (try clear ho0); obtain ⟨Ao10, co10, eo10⟩ := Kd.R_slice HO301.out; subst eo10) | ((with_reducible refine gate_callee (f := 36) rfl ?_); refine goesL_ (some 19) rfl rfl Try.func36 (by kernel_rfl) rfl #[.slice Ao10 t299.length co10, .slice A1 l1.length c1] rfl (by (try simp only [List.map_toArray, List.map_cons, List.map_nil]); first | done | rfl | (simp only [List.length_drop, List.length_take]; rfl)) ?_; (with_reducible refine (monikerref1_Done.calls k (fun k_ => some k_ = (.slice Ao10 t299.length co10 : Value).ownBlock) _ _ t299 _ _ l1 t302 _ ?side1 ?side2 ?side3 A6.out).mono ?_); (case side1 => exact Kd.R_V (Kd.R_tight rfl (HO301.out))); (case side2 => repeat (first | exact (Kd.C_below HR1.out HB.out) | (with_reducible refine Kd.C_alloc ?_ _) | (with_reducible refine Kd.C_drewN ?_ _) | (with_reducible refine Kd.C_drew ?_))); (case side3 => exact HC1.out); rintro e w11 ⟨v303, rfl, ho0, hb⟩; refine ⟨_, rfl, ?_⟩; have n0_ := Aside0.mk (Kd.R_elder' (by (with_reducible repeat (first | apply Kd.R_alloc | apply Kd.R_drewN | apply Kd.R_drew)); exact HO301.out) (Kd.R_base ho0) hb); have n1_ := Aside0.mk (Kd.R_lower (Kd.R_new' (Kd.R_mono (ok' := fun k_ => True) ho0 (fun _ hk_ => trivial)) (Kd.R_lt (by (with_reducible repeat (first | apply Kd.R_alloc | apply Kd.R_drewN | apply Kd.R_drew)); exact HO301.out))) (below_size (by repeat (first | (with_reducible first | exact HB.out | apply below_alloc | apply pw_below_drewN | apply below_drew1) | exact HB.out)))); have n2_ := Aside0.mk (below_step (by repeat (first | (with_reducible first | exact HB.out | apply below_alloc | apply pw_below_drewN | apply below_drew1) | exact HB.out)) hb); clear HO301; clear HB; have HO301 := n0_; have HO304 := n1_; have HB := n2_; clear n0_ n1_ n2_; (try clear hb); (try clear hb2); (try clear hk); (try clear hi); (try clear ho0); obtain ⟨Ao12, co12, eo12⟩ := Kd.R_slice HO304.out; subst eo12) | ((with_reducible refine gate_callee (f := 35) rfl ?_); refine goesL_ (some 20) rfl rfl Try.func35 (by kernel_rfl) rfl #[.string a0, .slice Ao12 t302.length co12] rfl (by (try simp only [List.map_toArray, List.map_cons, List.map_nil]); first | done | rfl | (simp only [List.length_drop, List.length_take]; rfl)) ?_; (with_reducible refine (monikerref1_said.calls k a0 _ _ t302 t305 _ ?side1 ?side2 A7.out).mono ?_); (case side1 => repeat (first | exact (Kd.R_reads' HO304.out).2.2 | (with_reducible refine Kd.C_alloc ?_ _) | (with_reducible refine Kd.C_drewN ?_ _) | (with_reducible refine Kd.C_drew ?_))); (case side2 => exact (Kd.R_reads' HO304.out).2.1); rintro e w' ⟨rfl, ⟨nd, rfl⟩⟩; refine ⟨_, rfl, ?_⟩))
    go_ret2
    exact ⟨by first | rfl | (simp [errW_none, errW_some] <;> rfl) | (simp [*, errW_none, errW_some] <;> rfl), by repeat (first | (with_reducible first | exact HB.out | apply below_alloc | apply pw_below_drewN | apply below_drew1) | exact HB.out)⟩
  · rw [if_neg c4] at H
    have c4b0 : (t298 == 0) = false := beq_eq_false_iff_ne.mpr c4
    have c4b1 : (t298 != 0) = true := bne_iff_ne.mpr c4
    simp only [Option.some.injEq, Prod.mk.injEq] at H
    obtain ⟨rfl, rfl⟩ := H
    go_enter Try.func25, Try.ntmps25
    go_wp2_with (first | ((with_reducible refine gate_callee (f := 33) rfl ?_); refine goesL_ (some 10) rfl rfl Try.func33 (by kernel_rfl) rfl #[.int .i64 (a0.size : Int), .slice A1 l1.length c1] rfl (by (try simp only [List.map_toArray, List.map_cons, List.map_nil]); first | done | rfl | (simp only [List.length_drop, List.length_take]; rfl)) ?_; (with_reducible refine (monikerref1_valid.calls k (a0.size : Int) _ _ l1 t298 _ ?side1 ?side2 A3.out).mono ?_); (case side1 => repeat (first | exact HR1.out | (with_reducible refine Kd.C_alloc ?_ _) | (with_reducible refine Kd.C_drewN ?_ _) | (with_reducible refine Kd.C_drew ?_))); (case side2 => exact HC1.out); rintro e w13 ⟨rfl, hb⟩; refine ⟨_, rfl, ?_⟩; have n0_ := Aside0.mk (below_step (by repeat (first | (with_reducible first | exact HB.out | apply below_alloc | apply pw_below_drewN | apply below_drew1) | exact HB.out)) hb); clear HB; have HB := n0_; clear n0_; (try clear hb); (try clear hb2); (try clear hk); (try clear hi)))
    go_ret2
    exact ⟨by first | rfl | (simp [errW_none, errW_some] <;> rfl) | (simp [*, errW_none, errW_some] <;> rfl), by repeat (first | (with_reducible first | exact HB.out | apply below_alloc | apply pw_below_drewN | apply below_drew1) | exact HB.out)⟩

end Go.Proofs.Ytaihajmdngoeiaa.F

namespace Go.Proofs.Ytaihajmdngoeiaa.Q
open Go.RowKit Go.Proofs.YtaihajmdngoeiaaW.PrintWords Go.Proofs.YtaihajmdngoeiaaW.PrintLast Go.Proofs.YtaihajmdngoeiaaW.PrintMore
open Go.Proofs.Ytaihajmdngoeiaa.F

set_option linter.unusedSimpArgs false
theorem sn_append (a b : List Int) : strOfNums (a ++ b) = strOfNums a ++ strOfNums b := by
  apply ByteArray.ext
  simp [strOfNums]
theorem sn_bytes (s : ByteArray) : strOfNums (bytesOf s) = s := by
  unfold strOfNums bytesOf
  apply ByteArray.ext
  rw [List.map_map]
  apply Array.ext'
  simp only [List.toList_toArray]
  conv => rhs; rw [← List.map_id s.data.toList]
  apply List.map_congr_left
  intro b _
  simp
theorem bo_append (a b : ByteArray) : bytesOf (a ++ b) = bytesOf a ++ bytesOf b := by
  unfold bytesOf
  rw [ByteArray.data_append]
  simp

/-- What a list of edits leaves of a text from a place on. -/
def apGo (text : ByteArray) : Int → List S42 → ByteArray
  | a, [] => text.extract a.toNat text.size
  | a, e :: t => text.extract a.toNat e.f0.toNat ++ e.f2 ++ apGo text e.f1 t
theorem ex_none (s : ByteArray) (a b : Nat) (h : b ≤ a) : s.extract a b = ⟨#[]⟩ := by
  have : (s.extract a b).size = 0 := by rw [ByteArray.size_extract]; omega
  apply ByteArray.ext
  exact Array.eq_empty_of_size_eq_zero this
theorem saidB_kp_eq (text : ByteArray) (a b : Int) (ha : 0 ≤ a) : saidB text (kp a b) = text.extract a.toNat b.toNat := by
  unfold kp
  split
  · simp only [saidB, piece, if_true]
    exact ByteArray.append_empty
  · rw [ex_none _ _ _ (by omega)]
    rfl
theorem saidB_segs (text : ByteArray) : ∀ (es : List S42) (a : Int), 0 ≤ a → (∀ e ∈ es, 0 ≤ e.f1) → saidB text (segs text.size a es) = apGo text a es
  | [], a, ha, _ => by simp only [segs, apGo]; rw [saidB_kp_eq _ _ _ ha]; simp
  | e :: t, a, ha, h => by
    simp only [segs, apGo]
    rw [saidB_append, saidB_kp_eq _ _ _ ha]
    simp only [saidB, piece, Bool.false_eq_true, if_false]
    rw [saidB_segs text t e.f1 (h e List.mem_cons_self) (fun x hx => h x (List.mem_cons_of_mem _ hx)), ByteArray.append_assoc]

theorem left_loop (l : List S42) (hl : l.length ≤ 65536) (d : Nat) : ∀ (i : Nat) (s : Int), i ≤ l.length → l.length - i = d →
    Ev (fun k => edits_left.l0 k (wrap64 s) l (l.length : Int) (i : Int)) (wrap64 (s + sumG (l.drop i))) := by
  induction d with
  | zero =>
    intro i s h1 h2
    refine ⟨1, fun n hn => ?_⟩
    obtain ⟨k, rfl⟩ : ∃ m, n = m + 1 := ⟨n - 1, by omega⟩
    simp only [edits_left.l0]
    rw [if_neg (by omega), List.drop_eq_nil_of_le (by omega)]
    simp [sumG]
  | succ d ih =>
    intro i s h1 h2
    have hi : i < l.length := by omega
    have hw : wrap64 ((i : Int) + 1) = ((i + 1 : Nat) : Int) := by rw [w64] <;> omega
    obtain ⟨K, hK⟩ := ih (i + 1) (s + grow l[i]) (by omega) (by omega)
    refine ⟨K + 1, fun n hn => ?_⟩
    obtain ⟨k, rfl⟩ : ∃ m, n = m + 1 := ⟨n - 1, by omega⟩
    have g := hK k (by omega)
    simp only at g
    simp only [edits_left.l0]
    rw [rd_at l i hi, if_pos (by omega), if_pos (by omega), if_pos (by omega), grows_is]
    simp only [Option.bind_some]
    rw [shift_step, hw, g, List.drop_eq_getElem_cons hi]
    simp only [sumG]
    congr 2
    omega
theorem left_is (size : Int) (h0 : 0 ≤ size) (h1 : size ≤ 4611686018427387904) (l : List S42) (hl : l.length ≤ 65536) : Ev (fun k => edits_left.f k size l) (wrap64 (size + sumG l)) := by
  unfold edits_left.f
  have := left_loop l hl l.length 0 size (by omega) (by omega)
  rw [w64 (x := size) (by omega) (by omega)] at this
  simpa using this

theorem apGo_size (text : ByteArray) (es : List S42) (a : Int) (p : Option Int) (hc : Chain text.size p es) (h0 : 0 ≤ a) (ha : a ≤ text.size) (hp : ∀ e t, es = e :: t → a ≤ e.f0) :
    ((apGo text a es).size : Int) = text.size - a + sumG es := by
  have hne : ∀ e ∈ es, 0 ≤ e.f1 := by
    intro e he
    obtain ⟨j, hj, rfl⟩ := List.mem_iff_getElem.1 he
    have := chain_at hc j hj
    omega
  rw [← saidB_segs text es a h0 hne]
  exact saidB_size text text.size rfl es a p hc h0 ha hp

theorem ap_loop (text : ByteArray) (l : List S42) (hl : l.length ≤ 65536) (hc : Chain text.size none l) (d : Nat) : ∀ (i : Nat) (a : Int) (out : List Int), i ≤ l.length → l.length - i = d → 0 ≤ a → a ≤ text.size → (∀ e t, l.drop i = e :: t → a ≤ e.f0) → out.length + (apGo text a (l.drop i)).size < 140737488355328 →
    Ev (fun k => edits_Apply.l0 k text out a l (l.length : Int) (i : Int)) (strOfNums (out ++ bytesOf (apGo text a (l.drop i))), 0) := by
  induction d with
  | zero =>
    intro i a out h1 h2 ha0 ha1 hp hs
    refine ⟨1, fun n hn => ?_⟩
    obtain ⟨k, rfl⟩ : ∃ m, n = m + 1 := ⟨n - 1, by omega⟩
    rw [List.drop_eq_nil_of_le (by omega)] at hs ⊢
    simp only [edits_Apply.l0, apGo] at hs ⊢
    rw [if_neg (by omega), if_pos ha0, if_pos ha1, if_pos hs]
  | succ d ih =>
    intro i a out h1 h2 ha0 ha1 hp hs
    have hi : i < l.length := by omega
    have hw : wrap64 ((i : Int) + 1) = ((i + 1 : Nat) : Int) := by rw [w64] <;> omega
    rw [List.drop_eq_getElem_cons hi] at hp hs ⊢
    have hae := hp _ _ rfl
    obtain ⟨e1, e2, e3⟩ := chain_at hc i hi
    simp only [apGo] at hs ⊢
    rw [ByteArray.size_append, ByteArray.size_append] at hs
    have hnext : ∀ e t, l.drop (i + 1) = e :: t → (l[i]).f1 ≤ e.f0 := by
      intro e t he
      obtain ⟨q, hq⟩ := chain_drop hc i
      rw [List.drop_eq_getElem_cons hi, he] at hq
      have := hq.2.2.2.2.2.2.2.1 _ rfl
      omega
    have hlen : (out ++ bytesOf (text.extract a.toNat (l[i]).f0.toNat) ++ bytesOf (l[i]).f2).length + (apGo text (l[i]).f1 (l.drop (i + 1))).size < 140737488355328 := by
      simp only [List.length_append, bytesOf_length]
      generalize (apGo text (l[i]).f1 (l.drop (i + 1))).size = T at hs ⊢
      generalize (text.extract a.toNat (l[i]).f0.toNat).size = X at hs ⊢
      omega
    have hlim : out.length + (text.extract a.toNat (l[i]).f0.toNat).size < 140737488355328 ∧ out.length + (text.extract a.toNat (l[i]).f0.toNat).size + (l[i]).f2.size < 140737488355328 := by
      generalize (apGo text (l[i]).f1 (l.drop (i + 1))).size = T at hs
      generalize (text.extract a.toNat (l[i]).f0.toNat).size = X at hs ⊢
      omega
    clear hs
    obtain ⟨K, hK⟩ := ih (i + 1) (l[i]).f1 (out ++ bytesOf (text.extract a.toNat (l[i]).f0.toNat) ++ bytesOf (l[i]).f2) (by omega) (by omega) (by omega) e3 hnext hlen
    clear hlen
    refine ⟨K + 1, fun n hn => ?_⟩
    obtain ⟨k, rfl⟩ : ∃ m, n = m + 1 := ⟨n - 1, by omega⟩
    have g := hK k (by omega)
    simp only at g
    simp only [edits_Apply.l0]
    rw [rd_at l i hi, if_pos (by omega), if_pos (by omega), if_pos (by omega), if_pos ha0, if_pos hae, if_pos (by omega), if_pos hlim.1]
    simp only [Option.bind_some]
    rw [if_pos (by simp only [List.length_append, bytesOf_length]; exact hlim.2), hw, g]
    simp only [bo_append, List.append_assoc]

def Apspec (text : ByteArray) (l : List S42) : ByteArray × Int := if vspec text.size l = 0 then (apGo text 0 l, 0) else (⟨#[]⟩, vspec text.size l)
theorem ap_first {size : Int} {p : Option Int} {l : List S42} (hc : Chain size p l) : ∀ e t, l = e :: t → 0 ≤ e.f0 := by
  rintro e t rfl
  exact hc.1
/-- How many bytes the texts of a list have. -/
def tot : List S42 → Nat
  | [] => 0
  | e :: t => e.f2.size + tot t
theorem sumG_tot {size : Int} : ∀ {l : List S42} {p : Option Int}, Chain size p l → sumG l ≤ tot l
  | [], _, _ => by simp [sumG, tot]
  | e :: t, p, ⟨c1, c2, c3, c4, c5⟩ => by
    have := sumG_tot c5
    simp only [sumG, tot, grow]
    omega
theorem sumG_low {size : Int} : ∀ {l : List S42} {p : Option Int} (a : Int), Chain size p l → 0 ≤ a → a ≤ size → (∀ e t, l = e :: t → a ≤ e.f0) → a - size ≤ sumG l
  | [], _, a, _, _, h, _ => by simp only [sumG]; omega
  | e :: t, p, a, ⟨c1, c2, c3, c4, c5⟩, h0, h, hp => by
    have h1 := hp _ _ rfl
    have := sumG_low e.f1 c5 (by omega) c3 (fun e' t' he => by subst he; have := c5.2.2.2.1 _ rfl; omega)
    simp only [sumG, grow]
    omega
theorem ap_size (text : ByteArray) (l : List S42) (h : vspec text.size l = 0) : ((apGo text 0 l).size : Int) = text.size + sumG l := by
  obtain ⟨hl, hc⟩ := vspec_zero h
  have := apGo_size text l 0 none hc (by omega) (by omega) (ap_first hc)
  omega
theorem ap_le (text : ByteArray) (l : List S42) (h : vspec text.size l = 0) : (apGo text 0 l).size ≤ text.size + tot l := by
  have h1 := ap_size text l h
  have h2 := sumG_tot (vspec_zero h).2
  omega

theorem Apply_is (text : ByteArray) (l : List S42) (hb : text.size + tot l < 140737488355328) : Ev (fun k => edits_Apply.f k text l) (Apspec text l) := by
  unfold edits_Apply.f Apspec
  refine (valid_is _ l).bind ?_
  by_cases h : vspec text.size l = 0
  · simp only [if_pos h]
    obtain ⟨hl, hc⟩ := vspec_zero h
    have hle := ap_le text l h
    have hsz := ap_size text l h
    refine (left_is text.size (by omega) (by omega) l hl).bind ?_
    have hw : wrap64 ((text.size : Int) + sumG l) = ((apGo text 0 l).size : Int) := by rw [← hsz, w64] <;> omega
    rw [hw]
    simp only [if_pos (show (0 : Int) ≤ ((apGo text 0 l).size : Int) by omega), if_pos (show ((apGo text 0 l).size : Int).toNat ≤ 281474976710656 by omega)]
    have := ap_loop text l hl hc l.length 0 0 [] (by omega) (by omega) (by omega) (by omega) (by simpa using ap_first hc) (by simpa using by omega)
    simpa [sn_bytes] using this
  · simp only [if_neg h]; exact Ev.now _
theorem RApply_is (text : ByteArray) (ht : text.size ≤ 140737488351232) (l : List S42) (hb : text.size + tot l < 140737488355328) : Ev (fun k => monikerref1_Apply.f k text l) (Apspec text l) := by
  unfold monikerref1_Apply.f Apspec
  refine (rvalid_is _ l).bind ?_
  by_cases h : vspec text.size l = 0
  · simp only [if_pos h]
    obtain ⟨hl, hc⟩ := vspec_zero h
    have hle := ap_le text l h
    have hne : ∀ e ∈ l, 0 ≤ e.f1 := by
      intro e he
      obtain ⟨j, hj, rfl⟩ := List.mem_iff_getElem.1 he
      have := chain_at hc j hj
      omega
    have hs := saidB_segs text l 0 (by omega) hne
    rw [Whole_is]
    simp only [Option.bind_some]
    refine (Done_is text.size (by omega) (by omega) l hl hc).bind ?_
    have hlen := segs_len text.size l 0
    have hsaid := said_is text (segs text.size 0 l) (by omega) (segs_old text.size (by omega) l 0 none hc (by omega)) (by rw [hs]; omega)
    rw [hs] at hsaid
    exact hsaid.bind (Ev.now _)
  · simp only [if_neg h]; exact Ev.now _
end Go.Proofs.Ytaihajmdngoeiaa.Q
