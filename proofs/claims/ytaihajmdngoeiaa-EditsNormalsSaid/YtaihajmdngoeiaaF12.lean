-- A text of this session's own program (wip/myprint.sh over a changed print tool): functions and their walks
import Derived.Test.YtaihajmdngoeiaaF0
namespace Go.Proofs.Ytaihajmdngoeiaa.F
open Go.RowKit Go.Proofs.YtaihajmdngoeiaaW.PrintWords Go.Proofs.YtaihajmdngoeiaaW.PrintLast Go.Proofs.YtaihajmdngoeiaaW.PrintMore
attribute [local go_sem] max2_int min2_int max_two min_two max_three min_three max_four min_four   -- for this text's walks alone
set_option linter.unusedVariables false
set_option linter.unusedSimpArgs false

/-! ### monikerref1_said: function 35 -/
def monikerref1_said.l0 : Nat → ByteArray → List (S61) → ByteArray → Int → Option (ByteArray)
  | 0, _, _, _, _ => none
  | k + 1, x0, x1, x5, x6 => if x6 < (x1.length : Int) then (if 0 ≤ x6 then (if (rd_T61 x1 x6).f0 = true then (if 0 ≤ ((rd_T61 x1 x6).f1) then (if ((rd_T61 x1 x6).f1) ≤ ((rd_T61 x1 x6).f2) then (if ((rd_T61 x1 x6).f2) ≤ (x0.size : Int) then (if x5.size + (x0.extract (((rd_T61 x1 x6).f1) : Int).toNat (((rd_T61 x1 x6).f2) : Int).toNat).size ≤ 9223372036854775807 then (monikerref1_said.l0 k x0 x1 (x5 ++ (x0.extract (((rd_T61 x1 x6).f1) : Int).toNat (((rd_T61 x1 x6).f2) : Int).toNat)) (wrap64 (x6 + 1))) else (none)) else (none)) else (none)) else (none)) else (if x5.size + ((rd_T61 x1 x6).f3).size ≤ 9223372036854775807 then (monikerref1_said.l0 k x0 x1 (x5 ++ ((rd_T61 x1 x6).f3)) (wrap64 (x6 + 1))) else (none))) else (none)) else (some x5)
def monikerref1_said.f (k : Nat) (a0 : ByteArray) (l1 : List (S61)) : Option (ByteArray) := monikerref1_said.l0 k a0 l1 (⟨#[]⟩ : ByteArray) 0
theorem monikerref1_said.mono_l : ∀ k, (∀ y0 y1 y2 y3, LeO (monikerref1_said.l0 k y0 y1 y2 y3) (monikerref1_said.l0 (k + 1) y0 y1 y2 y3))
  | 0 => fun _ _ _ _ r h => by simp [monikerref1_said.l0] at h
  | k + 1 => by
    have ih0 := monikerref1_said.mono_l k
    · intro y0 y1 y2 y3
      unfold monikerref1_said.l0
      repeat' first
      | (with_reducible exact ih0 _ _ _ _)
      | (with_reducible exact LeO.refl _)
      | (with_reducible exact LeO.none _)
      | (with_reducible refine LeO.ite ?_ ?_)
      | (with_reducible refine LeO.bind ?_ (fun _ => ?_))
      | exact ih0 _ _ _ _
      | exact LeO.none _
      | refine LeO.ite ?_ ?_
      | refine LeO.bind ?_ (fun _ => ?_)
theorem monikerref1_said.mono : ∀ a0 a1 k, LeO (monikerref1_said.f k a0 a1) (monikerref1_said.f (k + 1) a0 a1) := by
  intro a0 a1 k
  have ih0 := monikerref1_said.mono_l k
  unfold monikerref1_said.f
  repeat' first
      | (with_reducible exact ih0 _ _ _ _)
      | (with_reducible exact LeO.refl _)
      | (with_reducible exact LeO.none _)
      | (with_reducible refine LeO.ite ?_ ?_)
      | (with_reducible refine LeO.bind ?_ (fun _ => ?_))
      | exact ih0 _ _ _ _
      | exact LeO.none _
      | refine LeO.ite ?_ ?_
      | refine LeO.bind ?_ (fun _ => ?_)
set_option maxHeartbeats 8000000 in
set_option maxRecDepth 100000 in
theorem monikerref1_said.calls (k : Nat) (a0 : ByteArray) (A1 : Option Addr) (c1 : Nat) (l1 : List (S61)) (r : ByteArray) (w : World) (hr1 : Kd.C k61 w A1 l1.length l1) (hc1 : l1.length ≤ c1) (h : monikerref1_said.f k a0 l1 = some r) :
    Calls Try.prog 35 #[.string a0, .slice A1 l1.length c1] w fun e w' => e = .returned (.string r) ∧ Drawn0 w w' := by
  have HR1 := Aside0.mk hr1
  have HC1 := Aside0.mk hc1
  clear hr1 hc1
  have H : (monikerref1_said.l0 k a0 l1 (⟨#[]⟩ : ByteArray) 0) = some r := h
  clear h
  have H' := Aside0.mk H
  clear H
  go_enter Try.func35, Try.ntmps35
  go_wp2
  repeat (go_quiet (fail); try go_wp2)
  go_loopg [5, 6] k (fun kq v5 v6 w' => ∃ (x5_1 : ByteArray) (x6_1 : Int), v5 = .string x5_1 ∧ v6 = .int .i64 x6_1 ∧ Aside0 (monikerref1_said.l0 kq a0 l1 x5_1 x6_1 = some r) ∧ Aside0 (kq ≤ k) ∧ Drawn0 w w')
  case atStart => exact ⟨((⟨#[]⟩ : ByteArray)), (0), (by first | rfl | (simp; done) | (simp [*]; done)), (by first | rfl | (simp; done) | (simp [*]; done)), H', ⟨Nat.le_refl _⟩, by repeat (first | exact Drawn0.refl _ | apply Drawn0.step)⟩
  case round =>
    clear H'
    try clear c1
    try clear p2
    obtain ⟨x5_1, x6_1, rfl, rfl, HA, HK1, ⟨m1, rfl⟩⟩ := hrel
    cases gk with
    | zero => exact absurd HA.out (by simp [monikerref1_said.l0])
    | succ k1 =>
      have H := HA.out
      clear HA
      simp only [monikerref1_said.l0] at H
      by_cases c3 : x6_1 < (l1.length : Int)
      · rw [if_pos c3] at H
        have c3b0 : decide (x6_1 < (l1.length : Int)) = true := decide_eq_true c3
        clear c3
        by_cases c4 : 0 ≤ x6_1
        · rw [if_pos c4] at H
          have c4b0 : decide (0 ≤ x6_1) = true := decide_eq_true c4
          clear c4
          obtain ⟨bq5, hbq5⟩ : ∃ b_ : Bool, b_ = ((rd_T61 l1 x6_1).f0) := ⟨_, rfl⟩
          replace H : (if bq5 = true then (if 0 ≤ ((rd_T61 l1 x6_1).f1) then (if ((rd_T61 l1 x6_1).f1) ≤ ((rd_T61 l1 x6_1).f2) then (if ((rd_T61 l1 x6_1).f2) ≤ (a0.size : Int) then (if x5_1.size + (a0.extract (((rd_T61 l1 x6_1).f1) : Int).toNat (((rd_T61 l1 x6_1).f2) : Int).toNat).size ≤ 9223372036854775807 then (monikerref1_said.l0 k1 a0 l1 (x5_1 ++ (a0.extract (((rd_T61 l1 x6_1).f1) : Int).toNat (((rd_T61 l1 x6_1).f2) : Int).toNat)) (wrap64 (x6_1 + 1))) else (none)) else (none)) else (none)) else (none)) else (if x5_1.size + ((rd_T61 l1 x6_1).f3).size ≤ 9223372036854775807 then (monikerref1_said.l0 k1 a0 l1 (x5_1 ++ ((rd_T61 l1 x6_1).f3)) (wrap64 (x6_1 + 1))) else (none))) = some r := by rw [← hbq5] at H; exact H
          have Nbq5 := Aside0.mk hbq5
          clear hbq5
          by_cases c6 : bq5 = true
          · subst c6
            have H1 : (if 0 ≤ ((rd_T61 l1 x6_1).f1) then (if ((rd_T61 l1 x6_1).f1) ≤ ((rd_T61 l1 x6_1).f2) then (if ((rd_T61 l1 x6_1).f2) ≤ (a0.size : Int) then (if x5_1.size + (a0.extract (((rd_T61 l1 x6_1).f1) : Int).toNat (((rd_T61 l1 x6_1).f2) : Int).toNat).size ≤ 9223372036854775807 then (monikerref1_said.l0 k1 a0 l1 (x5_1 ++ (a0.extract (((rd_T61 l1 x6_1).f1) : Int).toNat (((rd_T61 l1 x6_1).f2) : Int).toNat)) (wrap64 (x6_1 + 1))) else (none)) else (none)) else (none)) else (none)) = some r := by rw [if_pos rfl] at H; exact H
            clear H
            have H := H1
            clear H1
            by_cases c7 : 0 ≤ ((rd_T61 l1 x6_1).f1)
            · rw [if_pos c7] at H
              have c7b0 := eq_true c7
              have c7b1 : decide (0 ≤ ((rd_T61 l1 x6_1).f1)) = true := decide_eq_true c7
              clear c7
              by_cases c8 : ((rd_T61 l1 x6_1).f1) ≤ ((rd_T61 l1 x6_1).f2)
              · rw [if_pos c8] at H
                have c8b0 := eq_true c8
                have c8b1 : decide (((rd_T61 l1 x6_1).f1) ≤ ((rd_T61 l1 x6_1).f2)) = true := decide_eq_true c8
                clear c8
                by_cases c9 : ((rd_T61 l1 x6_1).f2) ≤ (a0.size : Int)
                · rw [if_pos c9] at H
                  have c9b0 := eq_true c9
                  have c9b1 : decide (((rd_T61 l1 x6_1).f2) ≤ (a0.size : Int)) = true := decide_eq_true c9
                  clear c9
                  by_cases c10 : x5_1.size + (a0.extract (((rd_T61 l1 x6_1).f1) : Int).toNat (((rd_T61 l1 x6_1).f2) : Int).toNat).size ≤ 9223372036854775807
                  · rw [if_pos c10] at H
                    have c10b0 := eq_true c10
                    have c10b1 : decide (x5_1.size + (a0.extract (((rd_T61 l1 x6_1).f1) : Int).toNat (((rd_T61 l1 x6_1).f2) : Int).toNat).size ≤ 9223372036854775807) = true := decide_eq_true c10
                    try (have c10b1x := c10b1; simp only [ByteArray.size_extract, Nat.min_self] at c10b1x)
                    try (first | have c10b1y := eq_true (of_decide_eq_true c10b1x) | have c10b1y := eq_false (of_decide_eq_false c10b1x))
                    try have c10b2 : (9223372036854775807 < x5_1.size + (a0.extract (((rd_T61 l1 x6_1).f1) : Int).toNat (((rd_T61 l1 x6_1).f2) : Int).toNat).size) = False := eq_false (Nat.not_lt.2 c10)
                    have H' := Aside0.mk H
                    clear H
                    have p153 : 0 ≤ (x6_1 : Int) := of_decide_eq_true (by first | (with_reducible assumption) | assumption)
                    have q153 : x6_1 < (l1.length : Int) := of_decide_eq_true (by first | (with_reducible assumption) | assumption)
                    obtain ⟨ad153, e153, hx153_0, hx153_1, hx153_2, hx153_3⟩ := at_T61 HR1.out x6_1 p153 q153
                    (try rw [← Nbq5.out] at hx153_0)
                    cases e153
                    replace p153 := eq_true p153
                    replace q153 := eq_true q153
                    have p154 : 0 ≤ (x6_1 : Int) := of_decide_eq_true (by first | (with_reducible assumption) | assumption)
                    have q154 : x6_1 < (l1.length : Int) := of_decide_eq_true (by first | (with_reducible assumption) | assumption)
                    obtain ⟨ad154, e154, hx154_0, hx154_1, hx154_2, hx154_3⟩ := at_T61 HR1.out x6_1 p154 q154
                    (try rw [← Nbq5.out] at hx154_0)
                    obtain rfl : ad153 = ad154 := (by injection e154)
                    replace p154 := eq_true p154
                    replace q154 := eq_true q154
                    have p155 : 0 ≤ (x6_1 : Int) := of_decide_eq_true (by first | (with_reducible assumption) | assumption)
                    have q155 : x6_1 < (l1.length : Int) := of_decide_eq_true (by first | (with_reducible assumption) | assumption)
                    obtain ⟨ad155, e155, hx155_0, hx155_1, hx155_2, hx155_3⟩ := at_T61 HR1.out x6_1 p155 q155
                    (try rw [← Nbq5.out] at hx155_0)
                    obtain rfl : ad153 = ad155 := (by injection e155)
                    replace p155 := eq_true p155
                    replace q155 := eq_true q155
                    go_wp2
                    repeat (go_quiet (fail); try go_wp2)
                    go_roundg k1
                    case measure => have := HK1.out; omega
                    case rel => exact ⟨(x5_1 ++ (a0.extract (((rd_T61 l1 x6_1).f1) : Int).toNat (((rd_T61 l1 x6_1).f2) : Int).toNat)), (wrap64 (x6_1 + 1)), (by first | rfl | (simp; done) | (simp [*]; done)), (by first | rfl | (simp; done) | (simp [*]; done)), H', ⟨by have := HK1.out; omega⟩, by repeat (first | exact Drawn0.refl _ | apply Drawn0.step)⟩
                  · rw [if_neg c10] at H
                    exact absurd H (by simp)
                · rw [if_neg c9] at H
                  exact absurd H (by simp)
              · rw [if_neg c8] at H
                exact absurd H (by simp)
            · rw [if_neg c7] at H
              exact absurd H (by simp)
          · replace c6 := Bool.eq_false_iff.mpr c6
            subst c6
            have H1 : (if x5_1.size + ((rd_T61 l1 x6_1).f3).size ≤ 9223372036854775807 then (monikerref1_said.l0 k1 a0 l1 (x5_1 ++ ((rd_T61 l1 x6_1).f3)) (wrap64 (x6_1 + 1))) else (none)) = some r := by rw [if_neg (show ¬ (false = true) by decide)] at H; exact H
            clear H
            have H := H1
            clear H1
            by_cases c11 : x5_1.size + ((rd_T61 l1 x6_1).f3).size ≤ 9223372036854775807
            · rw [if_pos c11] at H
              have c11b0 := eq_true c11
              have c11b1 : decide (x5_1.size + ((rd_T61 l1 x6_1).f3).size ≤ 9223372036854775807) = true := decide_eq_true c11
              try have c11b2 : (9223372036854775807 < x5_1.size + ((rd_T61 l1 x6_1).f3).size) = False := eq_false (Nat.not_lt.2 c11)
              have H' := Aside0.mk H
              clear H
              have p153 : 0 ≤ (x6_1 : Int) := of_decide_eq_true (by first | (with_reducible assumption) | assumption)
              have q153 : x6_1 < (l1.length : Int) := of_decide_eq_true (by first | (with_reducible assumption) | assumption)
              obtain ⟨ad153, e153, hx153_0, hx153_1, hx153_2, hx153_3⟩ := at_T61 HR1.out x6_1 p153 q153
              (try rw [← Nbq5.out] at hx153_0)
              cases e153
              replace p153 := eq_true p153
              replace q153 := eq_true q153
              have p156 : 0 ≤ (x6_1 : Int) := of_decide_eq_true (by first | (with_reducible assumption) | assumption)
              have q156 : x6_1 < (l1.length : Int) := of_decide_eq_true (by first | (with_reducible assumption) | assumption)
              obtain ⟨ad156, e156, hx156_0, hx156_1, hx156_2, hx156_3⟩ := at_T61 HR1.out x6_1 p156 q156
              (try rw [← Nbq5.out] at hx156_0)
              obtain rfl : ad153 = ad156 := (by injection e156)
              replace p156 := eq_true p156
              replace q156 := eq_true q156
              go_wp2
              repeat (go_quiet (fail); try go_wp2)
              go_roundg k1
              case measure => have := HK1.out; omega
              case rel => exact ⟨(x5_1 ++ ((rd_T61 l1 x6_1).f3)), (wrap64 (x6_1 + 1)), (by first | rfl | (simp; done) | (simp [*]; done)), (by first | rfl | (simp; done) | (simp [*]; done)), H', ⟨by have := HK1.out; omega⟩, by repeat (first | exact Drawn0.refl _ | apply Drawn0.step)⟩
            · rw [if_neg c11] at H
              exact absurd H (by simp)
        · rw [if_neg c4] at H
          exact absurd H (by simp)
      · rw [if_neg c3] at H
        have c3b0 : decide (x6_1 < (l1.length : Int)) = false := decide_eq_false c3
        clear c3
        obtain rfl := Option.some.inj H
        go_wp2
        repeat (go_quiet (fail); try go_wp2)
        go_ret
        exact ⟨by first | rfl | (simp; done) | (simp [*]; done), by repeat (first | exact Drawn0.refl _ | apply Drawn0.step)⟩

end Go.Proofs.Ytaihajmdngoeiaa.F
