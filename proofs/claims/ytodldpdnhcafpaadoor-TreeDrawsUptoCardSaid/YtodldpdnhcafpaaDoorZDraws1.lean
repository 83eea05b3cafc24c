/- The law TreeDraws of package monikerlaw holds of the given program: called with any arguments that can be read as data, together of bulk at most 1048576, it returns true, and its arguments read behind the call as before. Conditions: those of the given row '..Upto', no others. -/
import Derived.Test.YtodldpdnhcafpaaDoorZDraws0
import Derived.Test.YtodldpdnhcafpaaDoorRows
import Derived.ProofKit
import Derived.LaidMore
import Derived.LaidLaws
import Derived.OpenShut
import Derived.Stop.Joined
import Derived.Test.YtodldpdnhcafpaaDoorCards
import Derived.Test.YtodldpdnhcafpaaDoorTie
import Derived.WalkKit
import Derived.ShutString
import Derived.ChangeOld
import Derived.Below
import Derived.SizedLaws
import Derived.SevenTiedAt
import Derived.Deep.DeepHandedRow
import Derived.Lib.LaidTab
-- A text of this session's own program (wip/myprint.sh over a changed print tool): functions and their walks
namespace Go.Proofs.YtodldpdnhcafpaaDoor.F
open Go.RowKit Go.Proofs.YtodldpdnhcafpaaDoorW.PrintWords Go.Proofs.YtodldpdnhcafpaaDoorW.PrintLast Go.Proofs.YtodldpdnhcafpaaDoorW.PrintMore
attribute [local go_sem] max2_int min2_int max_two min_two max_three min_three max_four min_four   -- for this text's walks alone
set_option linter.unusedVariables false
set_option linter.unusedSimpArgs false

/-! ### monikerref4_Draw: function 8 -/
mutual
def monikerref4_Draw.l0 : Nat → ByteArray → List (S43) → List Int → Int → Option ((List (S43)) × Int × Int)
  | 0, _, _, _, _ => none
  | k + 1, x0, x5, x6, x7 => monikerref4_Draw.l1 k x0 x5 x6 x7 x7
def monikerref4_Draw.j2 : Nat → ByteArray → List (S43) → List Int → Int → Int → Option ((List (S43)) × Int × Int)
  | 0, _, _, _, _, _ => none
  | k + 1, x0, x5, x6, x7, x8 => if 0 ≤ x7 then (if x7 ≤ x8 then (if x8 ≤ (x0.size : Int) then ((monikerref4_name.f k (x0.extract (x7 : Int).toNat (x8 : Int).toNat)).bind fun bt117 => (if bt117.1 < 0 then (some (([] : List (S43)), 40, x8)) else (if x5.length < 4398046511104 then ((some (x5 ++ [(⟨(bt117.1) % 256, 0, 0, 1⟩ : S43)] : List (S43))).bind fun y119 => (if x8 < (x0.size : Int) then (if 0 ≤ x8 then (monikerref4_Draw.j3 k x0 y119 x6 x8 ((bt x0 x8) == 40)) else (none)) else (monikerref4_Draw.j3 k x0 y119 x6 x8 false))) else (none)))) else (none)) else (none)) else (none)
def monikerref4_Draw.j3 : Nat → ByteArray → List (S43) → List Int → Int → Bool → Option ((List (S43)) × Int × Int)
  | 0, _, _, _, _, _ => none
  | k + 1, x0, x5, x6, x7, x60 => if x60 = true then (if x6.length < 17592186044416 then (monikerref4_Draw.l0 k x0 x5 (x6 ++ [wrap64 ((x5.length : Int) - 1)]) (wrap64 (x7 + 1))) else (none)) else (monikerref4_Draw.l2 k x0 x5 x6 x7)
def monikerref4_Draw.j5 : Nat → ByteArray → List (S43) → List Int → Int → Option ((List (S43)) × Int × Int)
  | 0, _, _, _, _ => none
  | k + 1, x0, x5, x6, x7 => if (x6.length : Int) = 0 then (if x7 < (x0.size : Int) then (some (([] : List (S43)), 40, x7)) else (some (x5, 0, 0))) else (if x7 = (x0.size : Int) then (some (([] : List (S43)), 40, x7)) else (if 0 ≤ x7 then (if x7 < (x0.size : Int) then (if (bt x0 x7) = 32 then (monikerref4_Draw.l0 k x0 x5 x6 (wrap64 (x7 + 1))) else (some (([] : List (S43)), 40, x7))) else (none)) else (none)))
def monikerref4_Draw.l2 : Nat → ByteArray → List (S43) → List Int → Int → Option ((List (S43)) × Int × Int)
  | 0, _, _, _, _ => none
  | k + 1, x0, x5, x6, x7 => if x7 < (x0.size : Int) then (if 0 ≤ x7 then (if (bt x0 x7) = 41 then (if (x6.length : Int) > 0 then (if 0 ≤ (wrap64 ((x6.length : Int) - 1)) then (if (wrap64 ((x6.length : Int) - 1)) < (x6.length : Int) then (if 0 ≤ (rd x6 (wrap64 ((x6.length : Int) - 1))) then (if (rd x6 (wrap64 ((x6.length : Int) - 1))) < (x5.length : Int) then (if (wrap64 ((x6.length : Int) - 1)) ≤ (x6.length : Int) then (monikerref4_Draw.l2 k x0 (x5.set ((rd x6 (wrap64 ((x6.length : Int) - 1))) : Int).toNat (⟨(rd_T43 x5 (rd x6 (wrap64 ((x6.length : Int) - 1)))).f0, (rd_T43 x5 (rd x6 (wrap64 ((x6.length : Int) - 1)))).f1, (rd_T43 x5 (rd x6 (wrap64 ((x6.length : Int) - 1)))).f2, wrap64 ((x5.length : Int) - (rd x6 (wrap64 ((x6.length : Int) - 1))))⟩ : S43)) (x6.take ((wrap64 ((x6.length : Int) - 1)) : Int).toNat) (wrap64 (x7 + 1))) else (none)) else (none)) else (none)) else (none)) else (none)) else (monikerref4_Draw.j5 k x0 x5 x6 x7)) else (monikerref4_Draw.j5 k x0 x5 x6 x7)) else (none)) else (monikerref4_Draw.j5 k x0 x5 x6 x7)
def monikerref4_Draw.l1 : Nat → ByteArray → List (S43) → List Int → Int → Int → Option ((List (S43)) × Int × Int)
  | 0, _, _, _, _, _ => none
  | k + 1, x0, x5, x6, x7, x8 => if x8 < (x0.size : Int) then (if 0 ≤ x7 then (if x7 ≤ (wrap64 (x8 + 1)) then (if (wrap64 (x8 + 1)) ≤ (x0.size : Int) then ((monikerref4_name.f k (x0.extract (x7 : Int).toNat ((wrap64 (x8 + 1)) : Int).toNat)).bind fun bt115 => (if bt115.2 = true then (monikerref4_Draw.l1 k x0 x5 x6 x7 (wrap64 (x8 + 1))) else (monikerref4_Draw.j2 k x0 x5 x6 x7 x8))) else (none)) else (none)) else (none)) else (monikerref4_Draw.j2 k x0 x5 x6 x7 x8)
end
def monikerref4_Draw.f (k : Nat) (a0 : ByteArray) : Option ((List (S43)) × Int × Int) := monikerref4_Draw.l0 k a0 ([] : List (S43)) ([] : List Int) 0
set_option maxHeartbeats 8000000 in
set_option maxRecDepth 100000 in
theorem monikerref4_Draw.calls (k : Nat) (a0 : ByteArray) (r1 : List (S43)) (r2 : Int) (r3 : Int) (w : World) (h : monikerref4_Draw.f k a0 = some (r1, r2, r3)) (hs_ : SG w) :
    Calls Tryd.prog 8 #[.string a0] w fun e w' => ∃ v0_ : Value, e = .returned (.tuple #[.agg #[v0_], .int .i64 r2, .int .i64 r3]) ∧ Kd.R k43 43 w' w.heap.size (fun _ => True) v0_ r1 ∧ Below w.heap.size w w' := by
  have hu24 := Tryd.underlying24
  have hu43 := Tryd.underlying43
  have HRG0 := Aside0.mk hs_.g0
  have HRG1 := Aside0.mk hs_.g1
  have HSG := Aside0.mk hs_
  clear hs_
  have HB := Aside0.mk (Below.refl w.heap.size w)
  have H : (monikerref4_Draw.l0 k a0 ([] : List (S43)) ([] : List Int) 0) = some (r1, r2, r3) := h
  clear h
  have H' := Aside0.mk H
  clear H
  go_enter Tryd.func8, Tryd.ntmps8
  go_wp2_with (first | ((with_reducible refine gate_dst (N := 2) rfl ?_); (try (refine gate_guard (by rfl) ?_; dsimp only)); refine box_event ?hg (N := 2) ?hd (cs := #[.slice none 0 0]) (t := 24) ?hr ?_; (case hd => rfl); (case hg => rfl); (case hr => first | (go_simp; done) | (go_simp; rfl)); intro gb114 hg w2 hbox hb; have n0_ := Aside0.mk (below_step (by repeat (first | (with_reducible first | exact HB.out | apply below_alloc | apply pw_below_drewN | apply below_drew1) | exact HB.out)) hb); have n1_ := Aside0.mk (hbox); have n2_ := Aside0.mk ((by rw [hg]; exact (below_size (by repeat (first | (with_reducible first | exact HB.out | apply below_alloc | apply pw_below_drewN | apply below_drew1) | exact HB.out))) : w.heap.size ≤ gb114)); have n3_ := Aside0.mk ((by rw [hg]; exact (below_size (by repeat (first | (with_reducible first | exact HB.out | apply below_alloc | apply pw_below_drewN | apply below_drew1) | exact HB.out))) : w.heap.size ≤ gb114)); clear HB; have HB := n0_; have BK114 := n1_; have GW114 := n2_; have GE114 := n3_; clear n0_ n1_ n2_ n3_; clear hb hbox hg))
  go_loopg [5, 6, 7] k (fun kq v5 v6 v7 w' => ∃ (x5_1 : List (S43)) (x6_1 : List Int) (x7_1 : Int), v7 = .int .i64 x7_1 ∧ Aside0 (monikerref4_Draw.l0 kq a0 x5_1 x6_1 x7_1 = some (r1, r2, r3)) ∧ Aside0 (kq ≤ k) ∧ Aside0 (Kd.R k43 43 w' w.heap.size (fun _ => True) v5 x5_1) ∧ Aside0 (Kd.R (Kd.int .i64) 3 w' w.heap.size (fun _ => True) v6 x6_1) ∧ Aside0 (w'.heap[gb114]? = some (.cells #[(.slice none 0 0)] 24 (0, 0))) ∧ Aside0 (Below w.heap.size w w'))
  case atStart => exact ⟨(([] : List (S43))), (([] : List Int)), (0), (by first | rfl | (simp; done) | (simp [*]; done)), H', ⟨Nat.le_refl _⟩, ⟨by first | exact Kd.R_nil _ _ _ _ _ | exact Kd.N_nil _ _ _ _ _ | exact Kd.V_nil _ _ _ _ _ | exact Kd.Q_nil _ _ _ _ _ | exact Kd.S_nil _ _ _ _ _⟩, ⟨by first | exact Kd.R_nil _ _ _ _ _ | exact Kd.N_nil _ _ _ _ _ | exact Kd.V_nil _ _ _ _ _ | exact Kd.Q_nil _ _ _ _ _ | exact Kd.S_nil _ _ _ _ _⟩, ⟨by (with_reducible repeat (first | refine blk_drewN ?_ _ | refine blk_drew ?_ | refine blk_alloc ?_ _)); exact BK114.out⟩, ⟨by repeat (first | (with_reducible first | exact HB.out | apply below_alloc | apply pw_below_drewN | apply below_drew1 | refine below_set ?_ GE114.out) | exact HB.out)⟩⟩
  case round =>
    clear H'
    try clear p2
    obtain ⟨x5_1, x6_1, x7_1, rfl, HA, HK1, HO_5, HO_6, BK114, HB⟩ := hrel
    cases gk with
    | zero => exact absurd HA.out (by simp [monikerref4_Draw.l0])
    | succ k1 =>
      have H := HA.out
      clear HA
      simp only [monikerref4_Draw.l0] at H
      have HC3 := Aside0.mk H
      clear H
      go_upto_block 2 with (fail)
      go_cut [8] (fun v8 wc => ∃ (kq : Nat) (x8_2 : Int), v8 = .int .i64 x8_2 ∧ Aside0 (monikerref4_Draw.j2 kq a0 x5_1 x6_1 x7_1 x8_2 = some (r1, r2, r3)) ∧ Aside0 (kq ≤ k1) ∧ Aside0 (Kd.R k43 43 wc w.heap.size (fun _ => True) u5 x5_1) ∧ Aside0 (Kd.R (Kd.int .i64) 3 wc w.heap.size (fun _ => True) u6 x6_1) ∧ Aside0 (wc.heap[gb114]? = some (.cells #[(.slice none 0 0)] 24 (0, 0))) ∧ Aside0 (Below w.heap.size w wc))
      case first =>
        have H := HC3.out
        clear HC3
        have H' := Aside0.mk H
        clear H
        go_wp2
        go_loopg [8] k1 (fun kq v8 w' => ∃ (x8_2 : Int), v8 = .int .i64 x8_2 ∧ Aside0 (monikerref4_Draw.l1 kq a0 x5_1 x6_1 x7_1 x8_2 = some (r1, r2, r3)) ∧ Aside0 (kq ≤ k1) ∧ Aside0 (Kd.R k43 43 w' w.heap.size (fun _ => True) u5 x5_1) ∧ Aside0 (Kd.R (Kd.int .i64) 3 w' w.heap.size (fun _ => True) u6 x6_1) ∧ Aside0 (w'.heap[gb114]? = some (.cells #[(.slice none 0 0)] 24 (0, 0))) ∧ Aside0 (Below w.heap.size w w'))
        case atStart => exact ⟨(x7_1), (by first | rfl | (simp; done) | (simp [*]; done)), H', ⟨Nat.le_refl _⟩, ⟨by (with_reducible repeat (first | apply Kd.R_alloc | apply Kd.R_drewN | apply Kd.R_drew)); exact HO_5.out⟩, ⟨by (with_reducible repeat (first | apply Kd.R_alloc | apply Kd.R_drewN | apply Kd.R_drew)); exact HO_6.out⟩, ⟨by (with_reducible repeat (first | refine blk_drewN ?_ _ | refine blk_drew ?_ | refine blk_alloc ?_ _)); exact BK114.out⟩, ⟨by repeat (first | (with_reducible first | exact HB.out | apply below_alloc | apply pw_below_drewN | apply below_drew1 | refine below_set ?_ GE114.out) | exact HB.out)⟩⟩
        case round =>
          clear H'
          try clear p2
          try clear p2
          obtain ⟨x8_2, rfl, HA, HK2, HO_5, HO_6, BK114, HB⟩ := hrel
          cases gk with
          | zero => exact absurd HA.out (by simp [monikerref4_Draw.l1])
          | succ k2 =>
            have H := HA.out
            clear HA
            simp only [monikerref4_Draw.l1] at H
            by_cases c4 : x8_2 < (a0.size : Int)
            · rw [if_pos c4] at H
              have c4b0 : decide (x8_2 < (a0.size : Int)) = true := decide_eq_true c4
              clear c4
              (first | rw [c4b0] | (simp only [i64_w, i32_w]; rw [c4b0]) | skip)
              by_cases c5 : 0 ≤ x7_1
              · rw [if_pos c5] at H
                have c5b0 := eq_true c5
                have c5b1 : decide (0 ≤ x7_1) = true := decide_eq_true c5
                clear c5
                by_cases c6 : x7_1 ≤ (wrap64 (x8_2 + 1))
                · rw [if_pos c6] at H
                  have c6b0 := eq_true c6
                  have c6b1 : decide (x7_1 ≤ (wrap64 (x8_2 + 1))) = true := decide_eq_true c6
                  by_cases c7 : (wrap64 (x8_2 + 1)) ≤ (a0.size : Int)
                  · rw [if_pos c7] at H
                    have c7b0 := eq_true c7
                    have c7b1 : decide ((wrap64 (x8_2 + 1)) ≤ (a0.size : Int)) = true := decide_eq_true c7
                    replace H := Option.bind_eq_some_iff.mp H
                    obtain ⟨⟨t115, t116⟩, A80, H⟩ := H
                    replace H : (if t116 = true then (monikerref4_Draw.l1 k2 a0 x5_1 x6_1 x7_1 (wrap64 (x8_2 + 1))) else (monikerref4_Draw.j2 k2 a0 x5_1 x6_1 x7_1 x8_2)) = some (r1, r2, r3) := H
                    have A8 := Aside0.mk A80
                    clear A80
                    by_cases c9 : t116 = true
                    · subst c9
                      have H1 : (monikerref4_Draw.l1 k2 a0 x5_1 x6_1 x7_1 (wrap64 (x8_2 + 1))) = some (r1, r2, r3) := by rw [if_pos rfl] at H; exact H
                      clear H
                      have H := H1
                      clear H1
                      have H' := Aside0.mk H
                      clear H
                      go_wp2_with (first | ((with_reducible refine gate_callee (f := 37) rfl ?_); refine goesL_ (some 25) rfl rfl Tryd.func37 (by kernel_rfl) rfl #[.string (a0.extract (x7_1 : Int).toNat ((wrap64 (x8_2 + 1)) : Int).toNat)] rfl (by (try simp only [List.map_toArray, List.map_cons, List.map_nil]); first | done | rfl | (simp only [List.length_drop, List.length_take]; rfl)) ?_; (with_reducible refine (monikerref4_name.calls k2 (a0.extract (x7_1 : Int).toNat ((wrap64 (x8_2 + 1)) : Int).toNat) t115 true _ A8.out (SG.below HSG.out (by repeat (first | (with_reducible first | exact HB.out | apply below_alloc | apply pw_below_drewN | apply below_drew1) | exact HB.out)))).mono ?_); rintro e w' ⟨rfl, ⟨nd, rfl⟩⟩; refine ⟨_, rfl, ?_⟩))
                      go_roundg k2
                      case measure => have := HK1.out; have := HK2.out; omega
                      case rel => exact ⟨(wrap64 (x8_2 + 1)), (by first | rfl | (simp; done) | (simp [*]; done)), H', ⟨by have := HK1.out; have := HK2.out; omega⟩, ⟨by (with_reducible repeat (first | apply Kd.R_alloc | apply Kd.R_drewN | apply Kd.R_drew)); exact HO_5.out⟩, ⟨by (with_reducible repeat (first | apply Kd.R_alloc | apply Kd.R_drewN | apply Kd.R_drew)); exact HO_6.out⟩, ⟨by (with_reducible repeat (first | refine blk_drewN ?_ _ | refine blk_drew ?_ | refine blk_alloc ?_ _)); exact BK114.out⟩, ⟨by repeat (first | (with_reducible first | exact HB.out | apply below_alloc | apply pw_below_drewN | apply below_drew1 | refine below_set ?_ GE114.out) | exact HB.out)⟩⟩
                    · replace c9 := Bool.eq_false_iff.mpr c9
                      subst c9
                      have H1 : (monikerref4_Draw.j2 k2 a0 x5_1 x6_1 x7_1 x8_2) = some (r1, r2, r3) := by rw [if_neg (show ¬ (false = true) by decide)] at H; exact H
                      clear H
                      have H := H1
                      clear H1
                      have H' := Aside0.mk H
                      clear H
                      go_wp2_with (first | ((with_reducible refine gate_callee (f := 37) rfl ?_); refine goesL_ (some 25) rfl rfl Tryd.func37 (by kernel_rfl) rfl #[.string (a0.extract (x7_1 : Int).toNat ((wrap64 (x8_2 + 1)) : Int).toNat)] rfl (by (try simp only [List.map_toArray, List.map_cons, List.map_nil]); first | done | rfl | (simp only [List.length_drop, List.length_take]; rfl)) ?_; (with_reducible refine (monikerref4_name.calls k2 (a0.extract (x7_1 : Int).toNat ((wrap64 (x8_2 + 1)) : Int).toNat) t115 false _ A8.out (SG.below HSG.out (by repeat (first | (with_reducible first | exact HB.out | apply below_alloc | apply pw_below_drewN | apply below_drew1) | exact HB.out)))).mono ?_); rintro e w' ⟨rfl, ⟨nd, rfl⟩⟩; refine ⟨_, rfl, ?_⟩))
                      go_meet
                      case rel => exact ⟨_, (x8_2), (by first | rfl | (simp; done) | (simp [*]; done)), H', ⟨by have := HK1.out; have := HK2.out; first | omega | exact Nat.le_refl _⟩, ⟨by (with_reducible repeat (first | apply Kd.R_alloc | apply Kd.R_drewN | apply Kd.R_drew)); exact HO_5.out⟩, ⟨by (with_reducible repeat (first | apply Kd.R_alloc | apply Kd.R_drewN | apply Kd.R_drew)); exact HO_6.out⟩, ⟨by (with_reducible repeat (first | refine blk_drewN ?_ _ | refine blk_drew ?_ | refine blk_alloc ?_ _)); exact BK114.out⟩, ⟨by repeat (first | (with_reducible first | exact HB.out | apply below_alloc | apply pw_below_drewN | apply below_drew1 | refine below_set ?_ GE114.out) | exact HB.out)⟩⟩
                  · rw [if_neg c7] at H
                    exact absurd H (by simp)
                · rw [if_neg c6] at H
                  exact absurd H (by simp)
              · rw [if_neg c5] at H
                exact absurd H (by simp)
            · rw [if_neg c4] at H
              have c4b0 : decide (x8_2 < (a0.size : Int)) = false := decide_eq_false c4
              clear c4
              (first | rw [c4b0] | (simp only [i64_w, i32_w]; rw [c4b0]) | skip)
              have H' := Aside0.mk H
              clear H
              go_wp2
              go_meet
              case rel => exact ⟨_, (x8_2), (by first | rfl | (simp; done) | (simp [*]; done)), H', ⟨by have := HK1.out; have := HK2.out; first | omega | exact Nat.le_refl _⟩, ⟨by (with_reducible repeat (first | apply Kd.R_alloc | apply Kd.R_drewN | apply Kd.R_drew)); exact HO_5.out⟩, ⟨by (with_reducible repeat (first | apply Kd.R_alloc | apply Kd.R_drewN | apply Kd.R_drew)); exact HO_6.out⟩, ⟨by (with_reducible repeat (first | refine blk_drewN ?_ _ | refine blk_drew ?_ | refine blk_alloc ?_ _)); exact BK114.out⟩, ⟨by repeat (first | (with_reducible first | exact HB.out | apply below_alloc | apply pw_below_drewN | apply below_drew1 | refine below_set ?_ GE114.out) | exact HB.out)⟩⟩
      case rest =>
        clear HC3
        try clear p2
        try clear c3
        try clear c4
        try clear c4b0
        try clear c5
        try clear c5b0
        try clear c5b1
        try clear c6
        try clear c6b0
        try clear c6b1
        try clear p6
        try clear c7
        try clear c7b0
        try clear c7b1
        try clear c8
        try clear c9
        try clear p2
        obtain ⟨kq, x8_2, rfl, HA, HJ2, HO_5, HO_6, BK114, HB⟩ := hcut
        cases kq with
        | zero => exact absurd HA.out (by simp [monikerref4_Draw.j2])
        | succ kj2 =>
          have H := HA.out
          clear HA
          simp only [monikerref4_Draw.j2] at H
          by_cases c10 : 0 ≤ x7_1
          · rw [if_pos c10] at H
            have c10b0 := eq_true c10
            have c10b1 : decide (0 ≤ x7_1) = true := decide_eq_true c10
            clear c10
            by_cases c11 : x7_1 ≤ x8_2
            · rw [if_pos c11] at H
              have c11b0 := eq_true c11
              have c11b1 : decide (x7_1 ≤ x8_2) = true := decide_eq_true c11
              clear c11
              by_cases c12 : x8_2 ≤ (a0.size : Int)
              · rw [if_pos c12] at H
                have c12b0 := eq_true c12
                have c12b1 : decide (x8_2 ≤ (a0.size : Int)) = true := decide_eq_true c12
                clear c12
                replace H := Option.bind_eq_some_iff.mp H
                obtain ⟨⟨t117, t118⟩, A130, H⟩ := H
                replace H : (if t117 < 0 then (some (([] : List (S43)), 40, x8_2)) else (if x5_1.length < 4398046511104 then ((some (x5_1 ++ [(⟨(t117) % 256, 0, 0, 1⟩ : S43)] : List (S43))).bind fun y119 => (if x8_2 < (a0.size : Int) then (if 0 ≤ x8_2 then (monikerref4_Draw.j3 kj2 a0 y119 x6_1 x8_2 ((bt a0 x8_2) == 40)) else (none)) else (monikerref4_Draw.j3 kj2 a0 y119 x6_1 x8_2 false))) else (none))) = some (r1, r2, r3) := H
                have A13 := Aside0.mk A130
                clear A130
                by_cases c14 : t117 < 0
                · rw [if_pos c14] at H
                  have c14b0 : decide (t117 < 0) = true := decide_eq_true c14
                  clear c14
                  simp only [Option.some.injEq, Prod.mk.injEq] at H
                  obtain ⟨rfl, rfl, rfl⟩ := H
                  go_wp2_with (first | ((with_reducible refine gate_callee (f := 37) rfl ?_); refine goesL_ (some 37) rfl rfl Tryd.func37 (by kernel_rfl) rfl #[.string (a0.extract (x7_1 : Int).toNat (x8_2 : Int).toNat)] rfl (by (try simp only [List.map_toArray, List.map_cons, List.map_nil]); first | done | rfl | (simp only [List.length_drop, List.length_take]; rfl)) ?_; (with_reducible refine (monikerref4_name.calls kj2 (a0.extract (x7_1 : Int).toNat (x8_2 : Int).toNat) t117 t118 _ A13.out (SG.below HSG.out (by repeat (first | (with_reducible first | exact HB.out | apply below_alloc | apply pw_below_drewN | apply below_drew1) | exact HB.out)))).mono ?_); rintro e w' ⟨rfl, ⟨nd, rfl⟩⟩; refine ⟨_, rfl, ?_⟩; (try (rw [drewN_self wc]; generalize hq_ : World.drewN wc _ = wc; have n0_ : Aside0 (Kd.R k43 43 wc w.heap.size (fun _ => True) u5 x5_1) := ⟨by rw [← hq_]; exact (by (with_reducible repeat (first | apply Kd.R_alloc | apply Kd.R_drewN | apply Kd.R_drew)); exact HO_5.out)⟩; have n1_ : Aside0 (Kd.R (Kd.int .i64) 3 wc w.heap.size (fun _ => True) u6 x6_1) := ⟨by rw [← hq_]; exact (by (with_reducible repeat (first | apply Kd.R_alloc | apply Kd.R_drewN | apply Kd.R_drew)); exact HO_6.out)⟩; have n2_ : Aside0 (wc.heap[gb114]? = some (.cells #[.slice none 0 0] 24 (0, 0))) := ⟨by rw [← hq_]; exact (by (with_reducible repeat (first | refine blk_drewN ?_ _ | refine blk_drew ?_ | refine blk_alloc ?_ _)); exact BK114.out)⟩; have n3_ : Aside0 (Below w.heap.size w wc) := ⟨by rw [← hq_]; exact (by repeat (first | (with_reducible first | exact HB.out | apply below_alloc | apply pw_below_drewN | apply below_drew1 | refine below_set ?_ GE114.out) | exact HB.out))⟩; clear HO_5 HO_6 BK114 HB hq_; have HO_5 := n0_; have HO_6 := n1_; have BK114 := n2_; have HB := n3_; clear n0_ n1_ n2_ n3_)); have hcz15_0 : wc.cell? ⟨gb114, 0, none⟩ = some (.slice none 0 0) := (blk_cell BK114.out 0).trans rfl; have hfz15_0 := blk_frozen BK114.out 0))
                  refine bodyPost_ret (results_ctt rfl _ _ gb114 24 #[.slice none 0 0] (0, 0) _ rfl (by (with_reducible repeat (first | refine blk_drewN ?_ _ | refine blk_drew ?_ | refine blk_alloc ?_ _)); refine blk_put (cs := #[.slice none 0 0]) ?_ 0 _ rfl; (with_reducible repeat (first | refine blk_drewN ?_ _ | refine blk_drew ?_ | refine blk_alloc ?_ _)); exact BK114.out) Tryd.underlying24 rfl (by kernel_rfl)) rfl ?_
                  exact ⟨_, by first | rfl | (simp [errW_none, errW_some] <;> rfl) | (simp [*, errW_none, errW_some] <;> rfl), by first | exact Kd.R_nil _ _ _ _ _ | exact Kd.N_nil _ _ _ _ _ | exact Kd.V_nil _ _ _ _ _ | exact Kd.Q_nil _ _ _ _ _ | exact Kd.S_nil _ _ _ _ _, by repeat (first | (with_reducible first | exact HB.out | apply below_alloc | apply pw_below_drewN | apply below_drew1 | refine below_set ?_ GE114.out) | exact HB.out)⟩
                · rw [if_neg c14] at H
                  have c14b0 : decide (t117 < 0) = false := decide_eq_false c14
                  clear c14
                  by_cases c16 : x5_1.length < 4398046511104
                  · rw [if_pos c16] at H
                    have LMc16 := Aside0.mk c16
                    clear c16
                    obtain ⟨y119, hy119⟩ : ∃ y_ : List (S43), y_ = (x5_1 ++ [(⟨(t117) % 256, 0, 0, 1⟩ : S43)]) := ⟨_, rfl⟩
                    replace H : (if x8_2 < (a0.size : Int) then (if 0 ≤ x8_2 then (monikerref4_Draw.j3 kj2 a0 y119 x6_1 x8_2 ((bt a0 x8_2) == 40)) else (none)) else (monikerref4_Draw.j3 kj2 a0 y119 x6_1 x8_2 false)) = some (r1, r2, r3) := by first | (rw [hy119]; with_reducible exact H) | (have H2_ := (Option.bind_some _ _).symm.trans H; rw [hy119]; with_reducible exact H2_) | (have H2_ := (Option.bind_some _ _).symm.trans H; with_reducible exact H2_) | with_reducible exact H | (rw [hy119]; exact H) | exact H
                    have Ny119 := Aside0.mk hy119
                    clear hy119
                    have HC17 := Aside0.mk H
                    clear H
                    go_upto_region 14 with (first | ((with_reducible refine gate_callee (f := 37) rfl ?_); refine goesL_ (some 37) rfl rfl Tryd.func37 (by kernel_rfl) rfl #[.string (a0.extract (x7_1 : Int).toNat (x8_2 : Int).toNat)] rfl (by (try simp only [List.map_toArray, List.map_cons, List.map_nil]); first | done | rfl | (simp only [List.length_drop, List.length_take]; rfl)) ?_; (with_reducible refine (monikerref4_name.calls kj2 (a0.extract (x7_1 : Int).toNat (x8_2 : Int).toNat) t117 t118 _ A13.out (SG.below HSG.out (by repeat (first | (with_reducible first | exact HB.out | apply below_alloc | apply pw_below_drewN | apply below_drew1) | exact HB.out)))).mono ?_); rintro e w' ⟨rfl, ⟨nd, rfl⟩⟩; refine ⟨_, rfl, ?_⟩) | ((with_reducible refine gate_builtin (b := .append) (xs := #[.tmp 44, .tmp 48]) rfl ?_); (try (refine gate_guard (by rfl) ?_; dsimp only)); at_builtin; refine Kd.R_append k43 (w0 := w) w.heap.size rfl (.tmp 44) (.tmp 48) 22 43 (.agg #[(.int .u8 0), (.int .i64 0), (.int .i64 0), (.int .i64 0)]) 32 rfl Tryd.underlying22 info43 rfl (by decide) (by omega) u5 x5_1 (⟨(t117) % 256, 0, 0, 1⟩ : S43) [.int .u8 ((t117) % 256), .int .i64 0, .int .i64 0, .int .i64 1] (fun _ => True) (fun _ => False) rfl rfl ?aP (fun _ hk => hk.elim) ?aF ?aO ?aB ?aS ?aL ?_; (case aP => exact k43_mkM _ _ _ (⟨(t117) % 256, 0, 0, 1⟩ : S43)); (case aB => exact (by repeat (first | (with_reducible first | exact HB.out | apply below_alloc | apply pw_below_drewN | apply below_drew1 | refine below_set ?_ GE114.out) | exact HB.out))); (case aF => exact (fun _ _ => trivial)); (case aO => exact (by (with_reducible repeat (first | apply Kd.R_alloc | apply Kd.R_drewN | apply Kd.R_drew)); exact HO_5.out)); (case aS => exact (below_size (by repeat (first | (with_reducible first | exact HB.out | apply below_alloc | apply pw_below_drewN | apply below_drew1 | refine below_set ?_ GE114.out) | exact HB.out)))); (case aL => have := LMc16.out; omega); intro v120 w18 ho hb hg hat; rw [← Ny119.out] at ho; have n0_ := Aside0.mk (Kd.R_over' (by (with_reducible repeat (first | apply Kd.R_alloc | apply Kd.R_drewN | apply Kd.R_drew)); exact HO_6.out) (Kd.R_typed (by (with_reducible repeat (first | apply Kd.R_alloc | apply Kd.R_drewN | apply Kd.R_drew)); exact HO_5.out)) (by decide) hg); have n1_ := Aside0.mk (blk_grown (g := gb114) (o := .cells #[.slice none 0 0] 24 (0, 0)) (by (with_reducible repeat (first | refine blk_drewN ?_ _ | refine blk_drew ?_ | refine blk_alloc ?_ _)); exact BK114.out) hg (Kd.R_ne HO_5.out BK114.out (by decide))); have n2_ := Aside0.mk (hb); have n3_ := Aside0.mk (ho); clear HO_6; clear BK114; clear HB; clear HO_5; have HO_6 := n0_; have BK114 := n1_; have HB := n2_; have HO121 := n3_; clear n0_ n1_ n2_ n3_; clear ho hb hg hat))
                    (try simp only [Act.put, List.setIfInBounds_toArray, List.set_cons_zero, List.set_cons_succ])
                    go_cut [60] (fun v60 wc => ∃ (kq : Nat) (x60_16 : Bool), v60 = .bool x60_16 ∧ Aside0 (monikerref4_Draw.j3 kq a0 y119 x6_1 x8_2 x60_16 = some (r1, r2, r3)) ∧ Aside0 (kq ≤ kj2) ∧ Aside0 (Kd.R k43 43 wc w.heap.size (fun _ => True) v120 y119) ∧ Aside0 (Kd.R (Kd.int .i64) 3 wc w.heap.size (fun _ => True) u6 x6_1) ∧ Aside0 (wc.heap[gb114]? = some (.cells #[(.slice none 0 0)] 24 (0, 0))) ∧ Aside0 (Below w.heap.size w wc))
                    case first =>
                      have H := HC17.out
                      clear HC17
                      by_cases c19 : x8_2 < (a0.size : Int)
                      · rw [if_pos c19] at H
                        have c19b0 : decide (x8_2 < (a0.size : Int)) = true := decide_eq_true c19
                        clear c19
                        (first | rw [c19b0] | (simp only [i64_w, i32_w]; rw [c19b0]) | skip)
                        by_cases c20 : 0 ≤ x8_2
                        · rw [if_pos c20] at H
                          have c20b0 : decide (0 ≤ x8_2) = true := decide_eq_true c20
                          clear c20
                          have H' := Aside0.mk H
                          clear H
                          have p21 : 0 ≤ (x8_2 : Int) := of_decide_eq_true (by first | (with_reducible assumption) | assumption)
                          have q21 : x8_2 < (a0.size : Int) := of_decide_eq_true (by first | (with_reducible assumption) | assumption)
                          have hx21 := bt_at a0 x8_2
                          replace p21 := eq_true p21
                          replace q21 := eq_true q21
                          go_wp2
                          go_meet
                          case rel => exact ⟨_, (((bt a0 x8_2) == 40)), (by first | rfl | (simp; done) | (simp [*]; done)), H', ⟨by have := HK1.out; have := HJ2.out; first | omega | exact Nat.le_refl _⟩, ⟨by (with_reducible repeat (first | apply Kd.R_alloc | apply Kd.R_drewN | apply Kd.R_drew)); exact HO121.out⟩, ⟨by (with_reducible repeat (first | apply Kd.R_alloc | apply Kd.R_drewN | apply Kd.R_drew)); exact HO_6.out⟩, ⟨by (with_reducible repeat (first | refine blk_drewN ?_ _ | refine blk_drew ?_ | refine blk_alloc ?_ _)); exact BK114.out⟩, ⟨by repeat (first | (with_reducible first | exact HB.out | apply below_alloc | apply pw_below_drewN | apply below_drew1 | refine below_set ?_ GE114.out) | exact HB.out)⟩⟩
                        · rw [if_neg c20] at H
                          exact absurd H (by simp)
                      · rw [if_neg c19] at H
                        have c19b0 : decide (x8_2 < (a0.size : Int)) = false := decide_eq_false c19
                        clear c19
                        (first | rw [c19b0] | (simp only [i64_w, i32_w]; rw [c19b0]) | skip)
                        have H' := Aside0.mk H
                        clear H
                        go_wp2
                        go_meet
                        case rel => exact ⟨_, (false), (by first | rfl | (simp; done) | (simp [*]; done)), H', ⟨by have := HK1.out; have := HJ2.out; first | omega | exact Nat.le_refl _⟩, ⟨by (with_reducible repeat (first | apply Kd.R_alloc | apply Kd.R_drewN | apply Kd.R_drew)); exact HO121.out⟩, ⟨by (with_reducible repeat (first | apply Kd.R_alloc | apply Kd.R_drewN | apply Kd.R_drew)); exact HO_6.out⟩, ⟨by (with_reducible repeat (first | refine blk_drewN ?_ _ | refine blk_drew ?_ | refine blk_alloc ?_ _)); exact BK114.out⟩, ⟨by repeat (first | (with_reducible first | exact HB.out | apply below_alloc | apply pw_below_drewN | apply below_drew1 | refine below_set ?_ GE114.out) | exact HB.out)⟩⟩
                    case rest =>
                      clear HC17
                      try clear c1
                      try clear c2
                      try clear p2
                      try clear q2
                      try clear hx2
                      try clear c3
                      try clear c4
                      try clear c4b0
                      try clear c5
                      try clear c5b0
                      try clear c5b1
                      try clear c6
                      try clear c6b0
                      try clear c6b1
                      try clear p6
                      try clear c7
                      try clear c7b0
                      try clear c7b1
                      try clear c8
                      try clear c9
                      try clear c10
                      try clear c10b0
                      try clear c10b1
                      try clear c11
                      try clear c11b0
                      try clear c11b1
                      try clear c12
                      try clear c12b0
                      try clear c12b1
                      try clear c14
                      try clear c14b0
                      try clear c16
                      try clear c19
                      try clear c19b0
                      try clear c20
                      try clear c20b0
                      try clear p21
                      try clear q21
                      try clear hx21
                      try clear hcz15_0
                      try clear hfz15_0
                      try clear p2
                      try clear p21
                      try clear p6
                      try clear q21
                      obtain ⟨kq, x60_16, rfl, HA, HJ16, HO_5, HO_6, BK114, HB⟩ := hcut
                      cases kq with
                      | zero => exact absurd HA.out (by simp [monikerref4_Draw.j3])
                      | succ kj16 =>
                        have H := HA.out
                        clear HA
                        simp only [monikerref4_Draw.j3] at H
                        by_cases c22 : x60_16 = true
                        · subst c22
                          have H1 : (if x6_1.length < 17592186044416 then (monikerref4_Draw.l0 kj16 a0 y119 (x6_1 ++ [wrap64 ((y119.length : Int) - 1)]) (wrap64 (x8_2 + 1))) else (none)) = some (r1, r2, r3) := by rw [if_pos rfl] at H; exact H
                          clear H
                          have H := H1
                          clear H1
                          by_cases c23 : x6_1.length < 17592186044416
                          · rw [if_pos c23] at H
                            have LMc23 := Aside0.mk c23
                            clear c23
                            obtain ⟨y122, hy122⟩ : ∃ y_ : List Int, y_ = (x6_1 ++ [wrap64 ((y119.length : Int) - 1)]) := ⟨_, rfl⟩
                            replace H : (monikerref4_Draw.l0 kj16 a0 y119 y122 (wrap64 (x8_2 + 1))) = some (r1, r2, r3) := by first | (rw [hy122]; with_reducible exact H) | (have H2_ := (Option.bind_some _ _).symm.trans H; rw [hy122]; with_reducible exact H2_) | (have H2_ := (Option.bind_some _ _).symm.trans H; with_reducible exact H2_) | with_reducible exact H | (rw [hy122]; exact H) | exact H
                            have Ny122 := Aside0.mk hy122
                            clear hy122
                            have H' := Aside0.mk H
                            clear H
                            obtain ⟨Ao24, co24, eo24⟩ := Kd.R_slice HO_5.out
                            subst eo24
                            go_wp2_with (first | ((with_reducible refine gate_builtin (b := .append) (xs := #[.tmp 61, .tmp 65]) rfl ?_); (try (refine gate_guard (by rfl) ?_; dsimp only)); at_builtin; refine Kd.R_append (Kd.int .i64) (w0 := w) w.heap.size rfl (.tmp 61) (.tmp 65) 55 3 (.int .i64 0) 8 rfl Tryd.underlying55 info3 rfl (by decide) (by omega) u6 x6_1 (wrap64 ((y119.length : Int) - 1)) [.int .i64 (wrap64 ((y119.length : Int) - 1))] (fun _ => True) (fun _ => False) rfl rfl ?aP (fun _ hk => hk.elim) ?aF ?aO ?aB ?aS ?aL ?_; (case aP => exact rfl); (case aB => exact (by repeat (first | (with_reducible first | exact HB.out | apply below_alloc | apply pw_below_drewN | apply below_drew1 | refine below_set ?_ GE114.out) | exact HB.out))); (case aF => exact (fun _ _ => trivial)); (case aO => exact (by (with_reducible repeat (first | apply Kd.R_alloc | apply Kd.R_drewN | apply Kd.R_drew)); exact HO_6.out)); (case aS => exact (below_size (by repeat (first | (with_reducible first | exact HB.out | apply below_alloc | apply pw_below_drewN | apply below_drew1 | refine below_set ?_ GE114.out) | exact HB.out)))); (case aL => have := LMc23.out; omega); intro v123 w25 ho hb hg hat; rw [← Ny122.out] at ho; have n0_ := Aside0.mk (Kd.R_over' (by (with_reducible repeat (first | apply Kd.R_alloc | apply Kd.R_drewN | apply Kd.R_drew)); exact HO_5.out) (Kd.R_typed (by (with_reducible repeat (first | apply Kd.R_alloc | apply Kd.R_drewN | apply Kd.R_drew)); exact HO_6.out)) (by decide) hg); have n1_ := Aside0.mk (blk_grown (g := gb114) (o := .cells #[.slice none 0 0] 24 (0, 0)) (by (with_reducible repeat (first | refine blk_drewN ?_ _ | refine blk_drew ?_ | refine blk_alloc ?_ _)); exact BK114.out) hg (Kd.R_ne HO_6.out BK114.out (by decide))); have n2_ := Aside0.mk (hb); have n3_ := Aside0.mk (ho); clear HO_5; clear BK114; clear HB; clear HO_6; have HO_5 := n0_; have BK114 := n1_; have HB := n2_; have HO124 := n3_; clear n0_ n1_ n2_ n3_; clear ho hb hg hat))
                            go_roundg kj16
                            case measure => have := HK1.out; have := HJ2.out; have := HJ16.out; omega
                            case rel => exact ⟨(y119), (y122), (wrap64 (x8_2 + 1)), (by first | rfl | (simp; done) | (simp [*]; done)), H', ⟨by have := HK1.out; have := HJ2.out; have := HJ16.out; omega⟩, ⟨by (with_reducible repeat (first | apply Kd.R_alloc | apply Kd.R_drewN | apply Kd.R_drew)); exact HO_5.out⟩, ⟨by (with_reducible repeat (first | apply Kd.R_alloc | apply Kd.R_drewN | apply Kd.R_drew)); exact HO124.out⟩, ⟨by (with_reducible repeat (first | refine blk_drewN ?_ _ | refine blk_drew ?_ | refine blk_alloc ?_ _)); exact BK114.out⟩, ⟨by repeat (first | (with_reducible first | exact HB.out | apply below_alloc | apply pw_below_drewN | apply below_drew1 | refine below_set ?_ GE114.out) | exact HB.out)⟩⟩
                          · rw [if_neg c23] at H
                            exact absurd H (by simp)
                        · replace c22 := Bool.eq_false_iff.mpr c22
                          subst c22
                          have H1 : (monikerref4_Draw.l2 kj16 a0 y119 x6_1 x8_2) = some (r1, r2, r3) := by rw [if_neg (show ¬ (false = true) by decide)] at H; exact H
                          clear H
                          have H := H1
                          clear H1
                          have HC26 := Aside0.mk H
                          clear H
                          go_upto_block 4 with (fail)
                          go_cut [6, 7] (fun v6 v7 wc => ∃ (kq : Nat) (x5_25 : List (S43)) (x6_25 : List Int) (x7_25 : Int), v7 = .int .i64 x7_25 ∧ Aside0 (monikerref4_Draw.j5 kq a0 x5_25 x6_25 x7_25 = some (r1, r2, r3)) ∧ Aside0 (kq ≤ kj16) ∧ Aside0 (Kd.R k43 43 wc w.heap.size (fun _ => True) v120 x5_25) ∧ Aside0 (Kd.R (Kd.int .i64) 3 wc w.heap.size (fun _ => True) v6 x6_25) ∧ Aside0 (wc.heap[gb114]? = some (.cells #[(.slice none 0 0)] 24 (0, 0))) ∧ Aside0 (Below w.heap.size w wc))
                          case first =>
                            have H := HC26.out
                            clear HC26
                            have H' := Aside0.mk H
                            clear H
                            go_wp2
                            go_loopg [6, 7] kj16 (fun kq v6 v7 w' => ∃ (x5_4 : List (S43)) (x6_4 : List Int) (x7_4 : Int), v7 = .int .i64 x7_4 ∧ Aside0 (monikerref4_Draw.l2 kq a0 x5_4 x6_4 x7_4 = some (r1, r2, r3)) ∧ Aside0 (kq ≤ kj16) ∧ Aside0 (Kd.R k43 43 w' w.heap.size (fun _ => True) v120 x5_4) ∧ Aside0 (Kd.R (Kd.int .i64) 3 w' w.heap.size (fun _ => True) v6 x6_4) ∧ Aside0 (w'.heap[gb114]? = some (.cells #[(.slice none 0 0)] 24 (0, 0))) ∧ Aside0 (Below w.heap.size w w'))
                            case atStart => exact ⟨(y119), (x6_1), (x8_2), (by first | rfl | (simp; done) | (simp [*]; done)), H', ⟨Nat.le_refl _⟩, ⟨by (with_reducible repeat (first | apply Kd.R_alloc | apply Kd.R_drewN | apply Kd.R_drew)); exact HO_5.out⟩, ⟨by (with_reducible repeat (first | apply Kd.R_alloc | apply Kd.R_drewN | apply Kd.R_drew)); exact HO_6.out⟩, ⟨by (with_reducible repeat (first | refine blk_drewN ?_ _ | refine blk_drew ?_ | refine blk_alloc ?_ _)); exact BK114.out⟩, ⟨by repeat (first | (with_reducible first | exact HB.out | apply below_alloc | apply pw_below_drewN | apply below_drew1 | refine below_set ?_ GE114.out) | exact HB.out)⟩⟩
                            case round =>
                              clear H'
                              try clear c1
                              try clear c2
                              try clear p2
                              try clear q2
                              try clear hx2
                              try clear c3
                              try clear c4
                              try clear c4b0
                              try clear c5
                              try clear c5b0
                              try clear c5b1
                              try clear c6
                              try clear c6b0
                              try clear c6b1
                              try clear p6
                              try clear c7
                              try clear c7b0
                              try clear c7b1
                              try clear c8
                              try clear c9
                              try clear c10
                              try clear c10b0
                              try clear c10b1
                              try clear c11
                              try clear c11b0
                              try clear c11b1
                              try clear c12
                              try clear c12b0
                              try clear c12b1
                              try clear c14
                              try clear c14b0
                              try clear c16
                              try clear c19
                              try clear c19b0
                              try clear c20
                              try clear c20b0
                              try clear p21
                              try clear q21
                              try clear hx21
                              try clear c22
                              try clear c23
                              try clear hcz15_0
                              try clear hfz15_0
                              try clear p2
                              try clear p21
                              try clear p6
                              try clear q2
                              try clear q21
                              obtain ⟨x5_4, x6_4, x7_4, rfl, HA, HK4, HO_5, HO_6, BK114, HB⟩ := hrel
                              cases gk with
                              | zero => exact absurd HA.out (by simp [monikerref4_Draw.l2])
                              | succ k4 =>
                                have H := HA.out
                                clear HA
                                simp only [monikerref4_Draw.l2] at H
                                by_cases c27 : x7_4 < (a0.size : Int)
                                · rw [if_pos c27] at H
                                  have c27b0 : decide (x7_4 < (a0.size : Int)) = true := decide_eq_true c27
                                  clear c27
                                  (first | rw [c27b0] | (simp only [i64_w, i32_w]; rw [c27b0]) | skip)
                                  by_cases c28 : 0 ≤ x7_4
                                  · rw [if_pos c28] at H
                                    have c28b0 : decide (0 ≤ x7_4) = true := decide_eq_true c28
                                    clear c28
                                    by_cases c30 : (bt a0 x7_4) = 41
                                    · rw [if_pos c30] at H
                                      have c30b0 : ((bt a0 x7_4) == 41) = true := beq_iff_eq.mpr c30
                                      have c30b1 : ((bt a0 x7_4) != 41) = false := bne_eq_false_iff_eq.mpr c30
                                      clear c30
                                      by_cases c31 : (x6_4.length : Int) > 0
                                      · rw [if_pos c31] at H
                                        have c31b0 : decide (0 < (x6_4.length : Int)) = true := decide_eq_true c31
                                        have c31b1 : decide (0 < x6_4.length) = true := decide_eq_true (by omega)
                                        clear c31
                                        obtain ⟨ji32, hji32⟩ : ∃ j_ : Int, (wrap64 ((x6_4.length : Int) - 1)) = j_ := ⟨_, rfl⟩
                                        replace H : (if 0 ≤ (ji32) then (if (ji32) < (x6_4.length : Int) then (if 0 ≤ (rd x6_4 (ji32)) then (if (rd x6_4 (ji32)) < (x5_4.length : Int) then (if (ji32) ≤ (x6_4.length : Int) then (monikerref4_Draw.l2 k4 a0 (x5_4.set ((rd x6_4 (ji32)) : Int).toNat (⟨(rd_T43 x5_4 (rd x6_4 (ji32))).f0, (rd_T43 x5_4 (rd x6_4 (ji32))).f1, (rd_T43 x5_4 (rd x6_4 (ji32))).f2, wrap64 ((x5_4.length : Int) - (rd x6_4 (ji32)))⟩ : S43)) (x6_4.take ((ji32) : Int).toNat) (wrap64 (x7_4 + 1))) else (none)) else (none)) else (none)) else (none)) else (none)) = some (r1, r2, r3) := by first | (rw [hji32] at H; exact H) | (simp only [hji32] at H ⊢; exact H)
                                        have hji32w : (IntKind.i64.wrap ((x6_4.length : Int) - 1)) = ji32 := (i64_w _).trans hji32
                                        by_cases c33 : 0 ≤ (ji32)
                                        · rw [if_pos c33] at H
                                          have c33b0 : decide (0 ≤ (ji32)) = true := decide_eq_true c33
                                          clear c33
                                          by_cases c34 : (ji32) < (x6_4.length : Int)
                                          · rw [if_pos c34] at H
                                            have c34b0 : decide ((ji32) < (x6_4.length : Int)) = true := decide_eq_true c34
                                            clear c34
                                            by_cases c35 : 0 ≤ (rd x6_4 (ji32))
                                            · rw [if_pos c35] at H
                                              have c35b0 : decide (0 ≤ (rd x6_4 (ji32))) = true := decide_eq_true c35
                                              clear c35
                                              by_cases c36 : (rd x6_4 (ji32)) < (x5_4.length : Int)
                                              · rw [if_pos c36] at H
                                                have c36b0 : decide ((rd x6_4 (ji32)) < (x5_4.length : Int)) = true := decide_eq_true c36
                                                clear c36
                                                obtain ⟨y126, hy126⟩ : ∃ y_ : List (S43), y_ = (x5_4.set ((rd x6_4 (ji32)) : Int).toNat (⟨(rd_T43 x5_4 (rd x6_4 (ji32))).f0, (rd_T43 x5_4 (rd x6_4 (ji32))).f1, (rd_T43 x5_4 (rd x6_4 (ji32))).f2, wrap64 ((x5_4.length : Int) - (rd x6_4 (ji32)))⟩ : S43)) := ⟨_, rfl⟩
                                                replace H : (if (ji32) ≤ (x6_4.length : Int) then (monikerref4_Draw.l2 k4 a0 y126 (x6_4.take ((ji32) : Int).toNat) (wrap64 (x7_4 + 1))) else (none)) = some (r1, r2, r3) := by first | (rw [hy126]; with_reducible exact H) | (have H2_ := (Option.bind_some _ _).symm.trans H; rw [hy126]; with_reducible exact H2_) | (have H2_ := (Option.bind_some _ _).symm.trans H; with_reducible exact H2_) | with_reducible exact H | (rw [hy126]; exact H) | exact H
                                                have Ny126 := Aside0.mk hy126
                                                clear hy126
                                                by_cases c38 : (ji32) ≤ (x6_4.length : Int)
                                                · rw [if_pos c38] at H
                                                  have c38b0 := eq_true c38
                                                  have c38b1 : decide ((ji32) ≤ (x6_4.length : Int)) = true := decide_eq_true c38
                                                  clear c38
                                                  obtain ⟨y127, hy127⟩ : ∃ y_ : List Int, y_ = (x6_4.take ((ji32) : Int).toNat) := ⟨_, rfl⟩
                                                  replace H : (monikerref4_Draw.l2 k4 a0 y126 y127 (wrap64 (x7_4 + 1))) = some (r1, r2, r3) := by first | (rw [hy127]; with_reducible exact H) | (have H2_ := (Option.bind_some _ _).symm.trans H; rw [hy127]; with_reducible exact H2_) | (have H2_ := (Option.bind_some _ _).symm.trans H; with_reducible exact H2_) | with_reducible exact H | (rw [hy127]; exact H) | exact H
                                                  have Ny127 := Aside0.mk hy127
                                                  clear hy127
                                                  have H' := Aside0.mk H
                                                  clear H
                                                  have p29 : 0 ≤ (x7_4 : Int) := of_decide_eq_true (by first | (with_reducible assumption) | assumption)
                                                  have q29 : x7_4 < (a0.size : Int) := of_decide_eq_true (by first | (with_reducible assumption) | assumption)
                                                  have hx29 := bt_at a0 x7_4
                                                  replace p29 := eq_true p29
                                                  replace q29 := eq_true q29
                                                  obtain ⟨Ao39, co39, eo39⟩ := Kd.R_slice HO_6.out
                                                  subst eo39
                                                  have p125 : 0 ≤ ((ji32) : Int) := of_decide_eq_true (by first | (with_reducible assumption) | assumption)
                                                  have q125 : (ji32) < (x6_4.length : Int) := of_decide_eq_true (by first | (with_reducible assumption) | assumption)
                                                  obtain ⟨ad125, e125, hx125_0⟩ := Kd.at_int (Kd.R_reads' HO_6.out).2.2 (ji32) p125 q125
                                                  cases e125
                                                  replace p125 := eq_true p125
                                                  replace q125 := eq_true q125
                                                  obtain ⟨Ao40, co40, eo40⟩ := Kd.R_slice HO_5.out
                                                  subst eo40
                                                  have p37 : 0 ≤ ((rd x6_4 (ji32)) : Int) := of_decide_eq_true (by first | (with_reducible assumption) | assumption)
                                                  have q37 : ((rd x6_4 (ji32)) : Int) < ((x5_4.length : Int) : Int) := of_decide_eq_true (by first | (with_reducible assumption) | assumption)
                                                  obtain ⟨go37, co37, eo37, gb37, gl37, cl37, HG37⟩ := Kd.R_form HO_5.out (by omega)
                                                  (first | cases eo37 | (injection eo37 with ea_ en_ ec_; (first | subst ea_ | (injection ea_ with ea_; subst ea_)); subst ec_; clear en_))
                                                  have GB37 := Aside0.mk gb37
                                                  have GG37 := Aside0.mk HG37
                                                  clear gb37 gl37 HG37
                                                  obtain ⟨ce37, hcl37, hM37, hcc37, hfr37⟩ := Kd.R_elem HO_5.out z43 ((rd x6_4 (ji32)) : Int) p37 q37
                                                  obtain rfl := k43_openM hM37
                                                  have hx37_0 : wr.cell? ⟨go37, ((rd x6_4 (ji32)) : Int).toNat * 4, none⟩ = some (.int .u8 ((rd_T43 x5_4 (rd x6_4 (ji32))).f0)) := hcc37 0 _ rfl
                                                  have hx37_1 : wr.cell? ⟨go37, ((rd x6_4 (ji32)) : Int).toNat * 4 + 1, none⟩ = some (.int .i64 ((rd_T43 x5_4 (rd x6_4 (ji32))).f1)) := hcc37 1 _ rfl
                                                  have hx37_2 : wr.cell? ⟨go37, ((rd x6_4 (ji32)) : Int).toNat * 4 + 2, none⟩ = some (.int .i64 ((rd_T43 x5_4 (rd x6_4 (ji32))).f2)) := hcc37 2 _ rfl
                                                  have hx37_3 : wr.cell? ⟨go37, ((rd x6_4 (ji32)) : Int).toNat * 4 + 3, none⟩ = some (.int .i64 ((rd_T43 x5_4 (rd x6_4 (ji32))).f3)) := hcc37 3 _ rfl
                                                  have hf37_0 : wr.frozen? ⟨go37, ((rd x6_4 (ji32)) : Int).toNat * 4, none⟩ = false := hfr37 0
                                                  have hf37_1 : wr.frozen? ⟨go37, ((rd x6_4 (ji32)) : Int).toNat * 4 + 1, none⟩ = false := hfr37 1
                                                  have hf37_2 : wr.frozen? ⟨go37, ((rd x6_4 (ji32)) : Int).toNat * 4 + 2, none⟩ = false := hfr37 2
                                                  have hf37_3 : wr.frozen? ⟨go37, ((rd x6_4 (ji32)) : Int).toNat * 4 + 3, none⟩ = false := hfr37 3
                                                  clear hcl37 hcc37 hfr37 hM37
                                                  replace p37 := eq_true p37
                                                  replace q37 := eq_true q37
                                                  have HX41 := Aside0.mk (show Kd.R k43 43 wr w.heap.size (fun _ => True) (.slice (some ⟨go37, 0, none⟩) x5_4.length co40) x5_4 from (by (with_reducible repeat (first | apply Kd.R_alloc | apply Kd.R_drewN | apply Kd.R_drew)); exact HO_5.out))
                                                  obtain ⟨ce41, hcl41, hM41, hcc41, hfr41⟩ := Kd.R_elem HX41.out z43 ((rd x6_4 (ji32)) : Int) (of_decide_eq_true (by first | (with_reducible assumption) | assumption)) (by have h_ : ((rd x6_4 (ji32)) : Int) < ((x5_4.length : Int) : Int) := of_decide_eq_true (by first | (with_reducible assumption) | assumption); first | exact h_ | (have e_ := (Kd.R_reads' HO_5.out).1; omega) | simpa using h_)
                                                  obtain rfl := k43_openM hM41
                                                  have HP41 := Kd.R_seg HX41.out ((rd x6_4 (ji32)) : Int) (of_decide_eq_true (by first | (with_reducible assumption) | assumption)) (by have h_ : ((rd x6_4 (ji32)) : Int) < ((x5_4.length : Int) : Int) := of_decide_eq_true (by first | (with_reducible assumption) | assumption); first | exact h_ | (have e_ := (Kd.R_reads' HO_5.out).1; omega) | simpa using h_) (seg := [.int .i64 (wrap64 ((x5_4.length : Int) - (rd x6_4 (ji32))))]) (j := 3) hcl41 hcc41 (show 4 ≤ 4 from by decide) (x' := (⟨(rd_T43 x5_4 (rd x6_4 (ji32))).f0, (rd_T43 x5_4 (rd x6_4 (ji32))).f1, (rd_T43 x5_4 (rd x6_4 (ji32))).f2, wrap64 ((x5_4.length : Int) - (rd x6_4 (ji32)))⟩ : S43)) (k43_mkM _ _ _ (⟨(rd_T43 x5_4 (rd x6_4 (ji32))).f0, (rd_T43 x5_4 (rd x6_4 (ji32))).f1, (rd_T43 x5_4 (rd x6_4 (ji32))).f2, wrap64 ((x5_4.length : Int) - (rd x6_4 (ji32)))⟩ : S43) ) (fun _ hk => hk)
                                                  have hx41_3 := hcc41 3 _ rfl
                                                  (try simp only [show (k43).sz = 4 from rfl, Nat.mul_one, Nat.add_zero] at hx41_3)
                                                  have hf41_3 := hfr41 3
                                                  (try simp only [show (k43).sz = 4 from rfl, Nat.mul_one, Nat.add_zero] at hf41_3)
                                                  clear hcl41 hcc41 hfr41 hM41
                                                  go_wp2_with (first | ((with_reducible refine gate_store (t := 3) (p := 97) rfl ?_); refine store_event (t := 3) (p := 97) (v := ?vo_w42) (w1 := (wr.setCell ⟨go37, ((rd x6_4 (ji32)) : Int).toNat * 4 + 3, none⟩ (.int .i64 (wrap64 ((x5_4.length : Int) - (rd x6_4 (ji32))))))) ?hg ?ho ?hn ?hr ?_; (case ho => rfl); (case hg => rfl); (case hn => rfl); (case hr => first | (go_simp; done) | (go_simp; rfl)); intro w42 hw; have hg : wr.grownBy w42 (some go37) := (by rw [hw]; exact HP41.2); have hp_ : Kd.R k43 43 w42 w.heap.size (fun _ => True) (.slice (some ⟨go37, 0, none⟩) x5_4.length co40) y126 := (by rw [hw, Ny126.out]; exact HP41.1); clear HP41; have n0_ := Aside0.mk (hp_); have n1_ := Aside0.mk (Kd.R_over' (v := (.slice (some ⟨go37, 0, none⟩) x5_4.length co40)) (by (with_reducible repeat (first | apply Kd.R_alloc | apply Kd.R_drewN | apply Kd.R_drew)); exact HO_6.out) (Kd.R_typed HO_5.out) (by decide) hg); have n2_ := Aside0.mk (blk_grown (g := gb114) (o := .cells #[.slice none 0 0] 24 (0, 0)) (by (with_reducible repeat (first | refine blk_drewN ?_ _ | refine blk_drew ?_ | refine blk_alloc ?_ _)); exact BK114.out) hg (Kd.R_ne HO_5.out BK114.out (by decide))); have n3_ := Aside0.mk ((by rw [hw]; exact below_set (HB.out) GB37.out : Below w.heap.size w w42)); clear HO_5; clear HO_6; clear BK114; clear HB; have HO_5 := n0_; have HO_6 := n1_; have BK114 := n2_; have HB := n3_; clear n0_ n1_ n2_ n3_; clear hg hw hp_; have q43 : ((ji32) : Int) ≤ ((x6_4.length : Int) : Int) := of_decide_eq_true (by first | (with_reducible assumption) | assumption); obtain ⟨i043, hi043, _, hsz43, _⟩ := info_parts info3; have hcut43 := cut_to (P := Tryd.prog) 55 3 .i64 Tryd.underlying55 hi043 (some ad125) x6_4.length co39 (ji32) (of_decide_eq_true (by first | (with_reducible assumption) | assumption)) q43 (Kd.R_reads' HO_6.out).2.1; have hr43 := Kd.R_take (m := ((ji32) : Int).toNat) HO_6.out (by omega); have hy43 : y127.length = ((ji32) : Int).toNat := (by rw [Ny127.out, List.length_take]; omega); rw [← Ny127.out] at hr43; rw [← hy43] at hr43 hcut43; clear hy43 hi043 hsz43 HO_6; have HO129 := Aside0.mk hr43; clear hr43; replace q43 := eq_true q43))
                                                  go_roundg k4
                                                  case measure => have := HK1.out; have := HJ2.out; have := HJ16.out; have := HK4.out; omega
                                                  case rel => exact ⟨(y126), (y127), (wrap64 (x7_4 + 1)), (by first | rfl | (simp; done) | (simp [*]; done)), H', ⟨by have := HK1.out; have := HJ2.out; have := HJ16.out; have := HK4.out; omega⟩, ⟨by (with_reducible repeat (first | apply Kd.R_alloc | apply Kd.R_drewN | apply Kd.R_drew)); exact HO_5.out⟩, ⟨by (with_reducible repeat (first | apply Kd.R_alloc | apply Kd.R_drewN | apply Kd.R_drew)); exact HO129.out⟩, ⟨by (with_reducible repeat (first | refine blk_drewN ?_ _ | refine blk_drew ?_ | refine blk_alloc ?_ _)); exact BK114.out⟩, ⟨by repeat (first | (with_reducible first | exact HB.out | apply below_alloc | apply pw_below_drewN | apply below_drew1 | refine below_set ?_ GE114.out) | exact HB.out)⟩⟩
                                                · rw [if_neg c38] at H
                                                  exact absurd H (by simp)
                                              · rw [if_neg c36] at H
                                                exact absurd H (by simp)
                                            · rw [if_neg c35] at H
                                              exact absurd H (by simp)
                                          · rw [if_neg c34] at H
                                            exact absurd H (by simp)
                                        · rw [if_neg c33] at H
                                          exact absurd H (by simp)
                                      · rw [if_neg c31] at H
                                        have c31b0 : decide (0 < (x6_4.length : Int)) = false := decide_eq_false c31
                                        have c31b1 : decide (0 < x6_4.length) = false := decide_eq_false (by omega)
                                        clear c31
                                        have H' := Aside0.mk H
                                        clear H
                                        have p29 : 0 ≤ (x7_4 : Int) := of_decide_eq_true (by first | (with_reducible assumption) | assumption)
                                        have q29 : x7_4 < (a0.size : Int) := of_decide_eq_true (by first | (with_reducible assumption) | assumption)
                                        have hx29 := bt_at a0 x7_4
                                        replace p29 := eq_true p29
                                        replace q29 := eq_true q29
                                        obtain ⟨Ao44, co44, eo44⟩ := Kd.R_slice HO_6.out
                                        subst eo44
                                        go_wp2
                                        go_meet
                                        case rel => exact ⟨_, (x5_4), (x6_4), (x7_4), (by first | rfl | (simp; done) | (simp [*]; done)), H', ⟨by have := HK1.out; have := HJ2.out; have := HJ16.out; have := HK4.out; first | omega | exact Nat.le_refl _⟩, ⟨by (with_reducible repeat (first | apply Kd.R_alloc | apply Kd.R_drewN | apply Kd.R_drew)); exact HO_5.out⟩, ⟨by (with_reducible repeat (first | apply Kd.R_alloc | apply Kd.R_drewN | apply Kd.R_drew)); exact HO_6.out⟩, ⟨by (with_reducible repeat (first | refine blk_drewN ?_ _ | refine blk_drew ?_ | refine blk_alloc ?_ _)); exact BK114.out⟩, ⟨by repeat (first | (with_reducible first | exact HB.out | apply below_alloc | apply pw_below_drewN | apply below_drew1 | refine below_set ?_ GE114.out) | exact HB.out)⟩⟩
                                    · rw [if_neg c30] at H
                                      have c30b0 : ((bt a0 x7_4) == 41) = false := beq_eq_false_iff_ne.mpr c30
                                      have c30b1 : ((bt a0 x7_4) != 41) = true := bne_iff_ne.mpr c30
                                      have H' := Aside0.mk H
                                      clear H
                                      have p29 : 0 ≤ (x7_4 : Int) := of_decide_eq_true (by first | (with_reducible assumption) | assumption)
                                      have q29 : x7_4 < (a0.size : Int) := of_decide_eq_true (by first | (with_reducible assumption) | assumption)
                                      have hx29 := bt_at a0 x7_4
                                      replace p29 := eq_true p29
                                      replace q29 := eq_true q29
                                      go_wp2
                                      go_meet
                                      case rel => exact ⟨_, (x5_4), (x6_4), (x7_4), (by first | rfl | (simp; done) | (simp [*]; done)), H', ⟨by have := HK1.out; have := HJ2.out; have := HJ16.out; have := HK4.out; first | omega | exact Nat.le_refl _⟩, ⟨by (with_reducible repeat (first | apply Kd.R_alloc | apply Kd.R_drewN | apply Kd.R_drew)); exact HO_5.out⟩, ⟨by (with_reducible repeat (first | apply Kd.R_alloc | apply Kd.R_drewN | apply Kd.R_drew)); exact HO_6.out⟩, ⟨by (with_reducible repeat (first | refine blk_drewN ?_ _ | refine blk_drew ?_ | refine blk_alloc ?_ _)); exact BK114.out⟩, ⟨by repeat (first | (with_reducible first | exact HB.out | apply below_alloc | apply pw_below_drewN | apply below_drew1 | refine below_set ?_ GE114.out) | exact HB.out)⟩⟩
                                  · rw [if_neg c28] at H
                                    exact absurd H (by simp)
                                · rw [if_neg c27] at H
                                  have c27b0 : decide (x7_4 < (a0.size : Int)) = false := decide_eq_false c27
                                  clear c27
                                  (first | rw [c27b0] | (simp only [i64_w, i32_w]; rw [c27b0]) | skip)
                                  have H' := Aside0.mk H
                                  clear H
                                  go_wp2
                                  go_meet
                                  case rel => exact ⟨_, (x5_4), (x6_4), (x7_4), (by first | rfl | (simp; done) | (simp [*]; done)), H', ⟨by have := HK1.out; have := HJ2.out; have := HJ16.out; have := HK4.out; first | omega | exact Nat.le_refl _⟩, ⟨by (with_reducible repeat (first | apply Kd.R_alloc | apply Kd.R_drewN | apply Kd.R_drew)); exact HO_5.out⟩, ⟨by (with_reducible repeat (first | apply Kd.R_alloc | apply Kd.R_drewN | apply Kd.R_drew)); exact HO_6.out⟩, ⟨by (with_reducible repeat (first | refine blk_drewN ?_ _ | refine blk_drew ?_ | refine blk_alloc ?_ _)); exact BK114.out⟩, ⟨by repeat (first | (with_reducible first | exact HB.out | apply below_alloc | apply pw_below_drewN | apply below_drew1 | refine below_set ?_ GE114.out) | exact HB.out)⟩⟩
                          case rest =>
                            clear HC26
                            try clear c1
                            try clear p1
                            try clear q1
                            try clear hx1
                            try clear c2
                            try clear p2
                            try clear q2
                            try clear hx2
                            try clear c3
                            try clear p3
                            try clear q3
                            try clear hx3
                            try clear hf3
                            try clear c4
                            try clear c4b0
                            try clear q4
                            try clear hx4
                            try clear hf4
                            try clear c5
                            try clear c5b0
                            try clear c5b1
                            try clear c6
                            try clear c6b0
                            try clear c6b1
                            try clear p6
                            try clear c7
                            try clear c7b0
                            try clear c7b1
                            try clear c8
                            try clear c9
                            try clear c10
                            try clear c10b0
                            try clear c10b1
                            try clear c11
                            try clear c11b0
                            try clear c11b1
                            try clear c12
                            try clear c12b0
                            try clear c12b1
                            try clear p12
                            try clear q12
                            try clear hx12
                            try clear c14
                            try clear c14b0
                            try clear c16
                            try clear c19
                            try clear c19b0
                            try clear c20
                            try clear c20b0
                            try clear p21
                            try clear q21
                            try clear hx21
                            try clear c22
                            try clear c23
                            try clear c27
                            try clear c27b0
                            try clear c28
                            try clear c28b0
                            try clear p29
                            try clear q29
                            try clear hx29
                            try clear c30
                            try clear c30b0
                            try clear c30b1
                            try clear c31
                            try clear c31b0
                            try clear c31b1
                            try clear c33
                            try clear c33b0
                            try clear c34
                            try clear c34b0
                            try clear c35
                            try clear c35b0
                            try clear c36
                            try clear c36b0
                            try clear c37
                            try clear p37
                            try clear q37
                            try clear hx37
                            try clear hf37
                            try clear c38
                            try clear c38b0
                            try clear c38b1
                            try clear c41
                            try clear hx41
                            try clear hf41
                            try clear q43
                            try clear hcz15_0
                            try clear hfz15_0
                            try clear hx125_0
                            try clear hx37_0
                            try clear hx37_1
                            try clear hx37_2
                            try clear hx37_3
                            try clear hx41_3
                            try clear p125
                            try clear p2
                            try clear p21
                            try clear p29
                            try clear p37
                            try clear p6
                            try clear q125
                            try clear q2
                            try clear q21
                            try clear q29
                            try clear q37
                            try clear q43
                            obtain ⟨kq, x5_25, x6_25, x7_25, rfl, HA, HJ25, HO_5, HO_6, BK114, HB⟩ := hcut
                            cases kq with
                            | zero => exact absurd HA.out (by simp [monikerref4_Draw.j5])
                            | succ kj25 =>
                              have H := HA.out
                              clear HA
                              simp only [monikerref4_Draw.j5] at H
                              by_cases c45 : (x6_25.length : Int) = 0
                              · rw [if_pos c45] at H
                                have c45b0 : ((x6_25.length : Int) == 0) = true := beq_iff_eq.mpr c45
                                have c45b1 : ((x6_25.length : Int) != 0) = false := bne_eq_false_iff_eq.mpr c45
                                clear c45
                                by_cases c46 : x7_25 < (a0.size : Int)
                                · rw [if_pos c46] at H
                                  have c46b0 : decide (x7_25 < (a0.size : Int)) = true := decide_eq_true c46
                                  clear c46
                                  simp only [Option.some.injEq, Prod.mk.injEq] at H
                                  obtain ⟨rfl, rfl, rfl⟩ := H
                                  obtain ⟨Ao47, co47, eo47⟩ := Kd.R_slice HO_6.out
                                  subst eo47
                                  have hcz48_0 : wc.cell? ⟨gb114, 0, none⟩ = some (.slice none 0 0) := (blk_cell BK114.out 0).trans rfl
                                  have hfz48_0 := blk_frozen BK114.out 0
                                  go_wp2
                                  refine bodyPost_ret (results_ctt rfl _ _ gb114 24 #[.slice none 0 0] (0, 0) _ rfl (by (with_reducible repeat (first | refine blk_drewN ?_ _ | refine blk_drew ?_ | refine blk_alloc ?_ _)); refine blk_put (cs := #[.slice none 0 0]) ?_ 0 _ rfl; (with_reducible repeat (first | refine blk_drewN ?_ _ | refine blk_drew ?_ | refine blk_alloc ?_ _)); exact BK114.out) Tryd.underlying24 rfl (by kernel_rfl)) rfl ?_
                                  exact ⟨_, by first | rfl | (simp [errW_none, errW_some] <;> rfl) | (simp [*, errW_none, errW_some] <;> rfl), by first | exact Kd.R_nil _ _ _ _ _ | exact Kd.N_nil _ _ _ _ _ | exact Kd.V_nil _ _ _ _ _ | exact Kd.Q_nil _ _ _ _ _ | exact Kd.S_nil _ _ _ _ _, by repeat (first | (with_reducible first | exact HB.out | apply below_alloc | apply pw_below_drewN | apply below_drew1 | refine below_set ?_ GE114.out) | exact HB.out)⟩
                                · rw [if_neg c46] at H
                                  have c46b0 : decide (x7_25 < (a0.size : Int)) = false := decide_eq_false c46
                                  clear c46
                                  simp only [Option.some.injEq, Prod.mk.injEq] at H
                                  obtain ⟨rfl, rfl, rfl⟩ := H
                                  obtain ⟨Ao49, co49, eo49⟩ := Kd.R_slice HO_6.out
                                  subst eo49
                                  obtain ⟨Ao50, co50, eo50⟩ := Kd.R_slice HO_5.out
                                  subst eo50
                                  have hcz51_0 : wc.cell? ⟨gb114, 0, none⟩ = some (.slice none 0 0) := (blk_cell BK114.out 0).trans rfl
                                  have hfz51_0 := blk_frozen BK114.out 0
                                  go_wp2
                                  refine bodyPost_ret (results_ctt rfl _ _ gb114 24 #[.slice Ao50 x5_25.length co50] (0, 0) _ rfl (by (with_reducible repeat (first | refine blk_drewN ?_ _ | refine blk_drew ?_ | refine blk_alloc ?_ _)); refine blk_put (cs := #[.slice none 0 0]) ?_ 0 _ rfl; (with_reducible repeat (first | refine blk_drewN ?_ _ | refine blk_drew ?_ | refine blk_alloc ?_ _)); exact BK114.out) Tryd.underlying24 rfl (by kernel_rfl)) rfl ?_
                                  exact ⟨_, by first | rfl | (simp [errW_none, errW_some] <;> rfl) | (simp [*, errW_none, errW_some] <;> rfl), by (with_reducible repeat (first | apply Kd.R_alloc | apply Kd.R_drewN | apply Kd.R_drew)); exact Kd.R_mono (Kd.R_far (p := ⟨gb114, 0, none⟩) (Kd.R_types HO_5.out BK114.out (by decide)) (fun _ hk => hk.2) (.slice Ao50 x5_25.length co50)) (fun _ hk => trivial), by repeat (first | (with_reducible first | exact HB.out | apply below_alloc | apply pw_below_drewN | apply below_drew1 | refine below_set ?_ GE114.out) | exact HB.out)⟩
                              · rw [if_neg c45] at H
                                have c45b0 : ((x6_25.length : Int) == 0) = false := beq_eq_false_iff_ne.mpr c45
                                have c45b1 : ((x6_25.length : Int) != 0) = true := bne_iff_ne.mpr c45
                                have c45b2 : ¬ (x6_25 = []) := fun h_ => c45 (by rw [h_]; rfl)
                                by_cases c52 : x7_25 = (a0.size : Int)
                                · rw [if_pos c52] at H
                                  have c52b0 : (x7_25 == (a0.size : Int)) = true := beq_iff_eq.mpr c52
                                  have c52b1 : (x7_25 != (a0.size : Int)) = false := bne_eq_false_iff_eq.mpr c52
                                  clear c52
                                  simp only [Option.some.injEq, Prod.mk.injEq] at H
                                  obtain ⟨rfl, rfl, rfl⟩ := H
                                  obtain ⟨Ao53, co53, eo53⟩ := Kd.R_slice HO_6.out
                                  subst eo53
                                  have hcz54_0 : wc.cell? ⟨gb114, 0, none⟩ = some (.slice none 0 0) := (blk_cell BK114.out 0).trans rfl
                                  have hfz54_0 := blk_frozen BK114.out 0
                                  go_wp2
                                  refine bodyPost_ret (results_ctt rfl _ _ gb114 24 #[.slice none 0 0] (0, 0) _ rfl (by (with_reducible repeat (first | refine blk_drewN ?_ _ | refine blk_drew ?_ | refine blk_alloc ?_ _)); refine blk_put (cs := #[.slice none 0 0]) ?_ 0 _ rfl; (with_reducible repeat (first | refine blk_drewN ?_ _ | refine blk_drew ?_ | refine blk_alloc ?_ _)); exact BK114.out) Tryd.underlying24 rfl (by kernel_rfl)) rfl ?_
                                  exact ⟨_, by first | rfl | (simp [errW_none, errW_some] <;> rfl) | (simp [*, errW_none, errW_some] <;> rfl), by first | exact Kd.R_nil _ _ _ _ _ | exact Kd.N_nil _ _ _ _ _ | exact Kd.V_nil _ _ _ _ _ | exact Kd.Q_nil _ _ _ _ _ | exact Kd.S_nil _ _ _ _ _, by repeat (first | (with_reducible first | exact HB.out | apply below_alloc | apply pw_below_drewN | apply below_drew1 | refine below_set ?_ GE114.out) | exact HB.out)⟩
                                · rw [if_neg c52] at H
                                  have c52b0 : (x7_25 == (a0.size : Int)) = false := beq_eq_false_iff_ne.mpr c52
                                  have c52b1 : (x7_25 != (a0.size : Int)) = true := bne_iff_ne.mpr c52
                                  by_cases c55 : 0 ≤ x7_25
                                  · rw [if_pos c55] at H
                                    have c55b0 : decide (0 ≤ x7_25) = true := decide_eq_true c55
                                    clear c55
                                    by_cases c56 : x7_25 < (a0.size : Int)
                                    · rw [if_pos c56] at H
                                      have c56b0 : decide (x7_25 < (a0.size : Int)) = true := decide_eq_true c56
                                      clear c56
                                      by_cases c58 : (bt a0 x7_25) = 32
                                      · rw [if_pos c58] at H
                                        have c58b0 : ((bt a0 x7_25) == 32) = true := beq_iff_eq.mpr c58
                                        have c58b1 : ((bt a0 x7_25) != 32) = false := bne_eq_false_iff_eq.mpr c58
                                        clear c58
                                        have H' := Aside0.mk H
                                        clear H
                                        obtain ⟨Ao59, co59, eo59⟩ := Kd.R_slice HO_6.out
                                        subst eo59
                                        have p57 : 0 ≤ (x7_25 : Int) := of_decide_eq_true (by first | (with_reducible assumption) | assumption)
                                        have q57 : x7_25 < (a0.size : Int) := of_decide_eq_true (by first | (with_reducible assumption) | assumption)
                                        have hx57 := bt_at a0 x7_25
                                        replace p57 := eq_true p57
                                        replace q57 := eq_true q57
                                        go_wp2
                                        go_roundg kj25
                                        case measure => have := HK1.out; have := HJ2.out; have := HJ16.out; have := HJ25.out; omega
                                        case rel => exact ⟨(x5_25), (x6_25), (wrap64 (x7_25 + 1)), (by first | rfl | (simp; done) | (simp [*]; done)), H', ⟨by have := HK1.out; have := HJ2.out; have := HJ16.out; have := HJ25.out; omega⟩, ⟨by (with_reducible repeat (first | apply Kd.R_alloc | apply Kd.R_drewN | apply Kd.R_drew)); exact HO_5.out⟩, ⟨by (with_reducible repeat (first | apply Kd.R_alloc | apply Kd.R_drewN | apply Kd.R_drew)); exact HO_6.out⟩, ⟨by (with_reducible repeat (first | refine blk_drewN ?_ _ | refine blk_drew ?_ | refine blk_alloc ?_ _)); exact BK114.out⟩, ⟨by repeat (first | (with_reducible first | exact HB.out | apply below_alloc | apply pw_below_drewN | apply below_drew1 | refine below_set ?_ GE114.out) | exact HB.out)⟩⟩
                                      · rw [if_neg c58] at H
                                        have c58b0 : ((bt a0 x7_25) == 32) = false := beq_eq_false_iff_ne.mpr c58
                                        have c58b1 : ((bt a0 x7_25) != 32) = true := bne_iff_ne.mpr c58
                                        simp only [Option.some.injEq, Prod.mk.injEq] at H
                                        obtain ⟨rfl, rfl, rfl⟩ := H
                                        obtain ⟨Ao60, co60, eo60⟩ := Kd.R_slice HO_6.out
                                        subst eo60
                                        have p57 : 0 ≤ (x7_25 : Int) := of_decide_eq_true (by first | (with_reducible assumption) | assumption)
                                        have q57 : x7_25 < (a0.size : Int) := of_decide_eq_true (by first | (with_reducible assumption) | assumption)
                                        have hx57 := bt_at a0 x7_25
                                        replace p57 := eq_true p57
                                        replace q57 := eq_true q57
                                        have hcz61_0 : wc.cell? ⟨gb114, 0, none⟩ = some (.slice none 0 0) := (blk_cell BK114.out 0).trans rfl
                                        have hfz61_0 := blk_frozen BK114.out 0
                                        go_wp2
                                        refine bodyPost_ret (results_ctt rfl _ _ gb114 24 #[.slice none 0 0] (0, 0) _ rfl (by (with_reducible repeat (first | refine blk_drewN ?_ _ | refine blk_drew ?_ | refine blk_alloc ?_ _)); refine blk_put (cs := #[.slice none 0 0]) ?_ 0 _ rfl; (with_reducible repeat (first | refine blk_drewN ?_ _ | refine blk_drew ?_ | refine blk_alloc ?_ _)); exact BK114.out) Tryd.underlying24 rfl (by kernel_rfl)) rfl ?_
                                        exact ⟨_, by first | rfl | (simp [errW_none, errW_some] <;> rfl) | (simp [*, errW_none, errW_some] <;> rfl), by first | exact Kd.R_nil _ _ _ _ _ | exact Kd.N_nil _ _ _ _ _ | exact Kd.V_nil _ _ _ _ _ | exact Kd.Q_nil _ _ _ _ _ | exact Kd.S_nil _ _ _ _ _, by repeat (first | (with_reducible first | exact HB.out | apply below_alloc | apply pw_below_drewN | apply below_drew1 | refine below_set ?_ GE114.out) | exact HB.out)⟩
                                    · rw [if_neg c56] at H
                                      exact absurd H (by simp)
                                  · rw [if_neg c55] at H
                                    exact absurd H (by simp)
                  · rw [if_neg c16] at H
                    exact absurd H (by simp)
              · rw [if_neg c12] at H
                exact absurd H (by simp)
            · rw [if_neg c11] at H
              exact absurd H (by simp)
          · rw [if_neg c10] at H
            exact absurd H (by simp)

end Go.Proofs.YtodldpdnhcafpaaDoor.F

-- The law TreeDraws, printed (see wip/mkdraw.py)
namespace Go.Proofs.YtodldpdnhcafpaaDoor.F
open Go.RowKit Go.Proofs.YtodldpdnhcafpaaDoorW.PrintWords Go.Proofs.YtodldpdnhcafpaaDoorW.PrintLast Go.Proofs.YtodldpdnhcafpaaDoorW.PrintMore
attribute [local go_sem] max2_int min2_int max_two min_two max_three min_three max_four min_four   -- for this text's walks alone
set_option linter.unusedVariables false
set_option linter.unusedSimpArgs false

/-! ### monikerlaw4_TreeDraws: function 3 -/
def monikerlaw4_TreeDraws.f (k : Nat) (a0 : ByteArray) : Option (Bool) := (tree_Draw.f k a0).bind fun bt166 => ((monikerref4_Draw.f k a0).bind fun bt172 => ((monikerplain_SameTree.f k bt166.1 bt172.1).bind fun t178 => (if t178 = true then (if bt166.2.1 = bt172.2.1 then (some (bt166.2.2 == bt172.2.2)) else (some false)) else (some false))))
set_option maxHeartbeats 8000000 in
set_option maxRecDepth 100000 in
theorem monikerlaw4_TreeDraws.calls (k : Nat) (a0 : ByteArray) (r : Bool) (w : World) (h : monikerlaw4_TreeDraws.f k a0 = some r) (hs_ : SG w) :
    Calls Tryd.prog 3 #[.string a0] w fun e w' => e = .returned (.bool r) ∧ Below w.heap.size w w' := by
  have hu24 := Tryd.underlying24
  have HRG0 := Aside0.mk hs_.g0
  have HRG1 := Aside0.mk hs_.g1
  have HSG := Aside0.mk hs_
  clear hs_
  have HB := Aside0.mk (Below.refl w.heap.size w)
  have H : ((tree_Draw.f k a0).bind fun bt166 => ((monikerref4_Draw.f k a0).bind fun bt172 => ((monikerplain_SameTree.f k bt166.1 bt172.1).bind fun t178 => (if t178 = true then (if bt166.2.1 = bt172.2.1 then (some (bt166.2.2 == bt172.2.2)) else (some false)) else (some false))))) = some r := h
  clear h
  replace H := Option.bind_eq_some_iff.mp H
  obtain ⟨⟨t166, t169, t170⟩, A20, H⟩ := H
  replace H : ((monikerref4_Draw.f k a0).bind fun bt172 => ((monikerplain_SameTree.f k t166 bt172.1).bind fun t178 => (if t178 = true then (if t169 = bt172.2.1 then (some (t170 == bt172.2.2)) else (some false)) else (some false)))) = some r := H
  have A2 := Aside0.mk A20
  clear A20
  replace H := Option.bind_eq_some_iff.mp H
  obtain ⟨⟨t172, t175, t176⟩, A30, H⟩ := H
  replace H : ((monikerplain_SameTree.f k t166 t172).bind fun t178 => (if t178 = true then (if t169 = t175 then (some (t170 == t176)) else (some false)) else (some false))) = some r := H
  have A3 := Aside0.mk A30
  clear A30
  replace H := Option.bind_eq_some_iff.mp H
  obtain ⟨t178, A40, H⟩ := H
  replace H : (if t178 = true then (if t169 = t175 then (some (t170 == t176)) else (some false)) else (some false)) = some r := H
  have A4 := Aside0.mk A40
  clear A40
  by_cases c5 : t178 = true
  · subst c5
    have H1 : (if t169 = t175 then (some (t170 == t176)) else (some false)) = some r := by rw [if_pos rfl] at H; exact H
    clear H
    have H := H1
    clear H1
    by_cases c6 : t169 = t175
    · rw [if_pos c6] at H
      have c6b0 : (t169 == t175) = true := beq_iff_eq.mpr c6
      have c6b1 : (t169 != t175) = false := bne_eq_false_iff_eq.mpr c6
      clear c6
      obtain rfl := Option.some.inj H
      go_enter Tryd.func3, Tryd.ntmps3
      go_wp2_with (first | ((with_reducible refine gate_callee (f := 7) rfl ?_); refine goesL_ (some 11) rfl rfl Tryd.func7 (by kernel_rfl) rfl #[.string a0] rfl (by (try simp only [List.map_toArray, List.map_cons, List.map_nil]); first | done | rfl | (simp only [List.length_drop, List.length_take]; rfl)) ?_; (with_reducible refine (tree_Draw.calls k a0 t166 t169 t170 _ A2.out (SG.below HSG.out (by repeat (first | (with_reducible first | exact HB.out | apply below_alloc | apply pw_below_drewN | apply below_drew1 | refine below_set ?_ GE171.out | refine below_set ?_ GE177.out) | exact HB.out)))).mono ?_); rintro e w7 ⟨v167, rfl, ho0, hb⟩; refine ⟨_, rfl, ?_⟩; have n0_ := Aside0.mk (Kd.R_lower ho0 (below_size (by repeat (first | (with_reducible first | exact HB.out | apply below_alloc | apply pw_below_drewN | apply below_drew1) | exact HB.out)))); have n1_ := Aside0.mk (below_step (by repeat (first | (with_reducible first | exact HB.out | apply below_alloc | apply pw_below_drewN | apply below_drew1) | exact HB.out)) hb); clear HB; have HO168 := n0_; have HB := n1_; clear n0_ n1_; (try clear hb); (try clear hb2); (try clear hk); (try clear hi); (try clear ho0)) | ((with_reducible refine gate_dst (N := 3) rfl ?_); refine box_event ?hg (N := 3) ?hd (cs := #[.slice none 0 0]) (t := 24) ?hr ?_; (case hd => rfl); (case hg => rfl); (case hr => first | (go_simp; done) | (go_simp; rfl)); intro gb171 hg w8 hbox hb; have n0_ := Aside0.mk (Kd.R_below (by (with_reducible repeat (first | apply Kd.R_alloc | apply Kd.R_drewN | apply Kd.R_drew)); exact HO168.out) hb); have n1_ := Aside0.mk (below_step (by repeat (first | (with_reducible first | exact HB.out | apply below_alloc | apply pw_below_drewN | apply below_drew1) | exact HB.out)) hb); have n2_ := Aside0.mk (hbox); have n3_ := Aside0.mk ((by rw [hg]; exact (below_size (by repeat (first | (with_reducible first | exact HB.out | apply below_alloc | apply pw_below_drewN | apply below_drew1) | exact HB.out))) : w.heap.size ≤ gb171)); have n4_ := Aside0.mk ((by rw [hg]; exact (below_size (by repeat (first | (with_reducible first | exact HB.out | apply below_alloc | apply pw_below_drewN | apply below_drew1) | exact HB.out))) : w.heap.size ≤ gb171)); clear HO168; clear HB; have HO168 := n0_; have HB := n1_; have BK171 := n2_; have GW171 := n3_; have GE171 := n4_; clear n0_ n1_ n2_ n3_ n4_; clear hb hbox hg; obtain ⟨Ao9, co9, eo9⟩ := Kd.R_slice HO168.out; subst eo9; have hcz10_0 : w8.cell? ⟨gb171, 0, none⟩ = some (.slice none 0 0) := (blk_cell BK171.out 0).trans rfl; have hfz10_0 := blk_frozen BK171.out 0) | ((with_reducible refine gate_callee (f := 8) rfl ?_); refine goesL_ (some 17) rfl rfl Tryd.func8 (by kernel_rfl) rfl #[.string a0] rfl (by (try simp only [List.map_toArray, List.map_cons, List.map_nil]); first | done | rfl | (simp only [List.length_drop, List.length_take]; rfl)) ?_; (with_reducible refine (monikerref4_Draw.calls k a0 t172 t175 t176 _ A3.out (SG.below HSG.out (by repeat (first | (with_reducible first | exact HB.out | apply below_alloc | apply pw_below_drewN | apply below_drew1 | refine below_set ?_ GE171.out | refine below_set ?_ GE177.out) | exact HB.out)))).mono ?_); rintro e w11 ⟨v173, rfl, ho0, hb⟩; refine ⟨_, rfl, ?_⟩; have n0_ := Aside0.mk (Kd.R_elder' (by (with_reducible repeat (first | apply Kd.R_alloc | apply Kd.R_drewN | apply Kd.R_drew)); exact (Kd.R_mono (Kd.R_far (p := ⟨gb171, 0, none⟩) (Kd.R_types HO168.out BK171.out (by decide)) (fun _ hk => hk.2) (.slice Ao9 t166.length co9)) (fun _ h_ => h_.1))) (Kd.R_base ho0) hb); have n1_ := Aside0.mk (Kd.R_lower (Kd.R_new' ho0 (Kd.R_lt (by (with_reducible repeat (first | apply Kd.R_alloc | apply Kd.R_drewN | apply Kd.R_drew)); exact (Kd.R_mono (Kd.R_far (p := ⟨gb171, 0, none⟩) (Kd.R_types HO168.out BK171.out (by decide)) (fun _ hk => hk.2) (.slice Ao9 t166.length co9)) (fun _ h_ => h_.1))))) (below_size (by repeat (first | (with_reducible first | exact HB.out | apply below_alloc | apply pw_below_drewN | apply below_drew1 | refine below_set ?_ GE171.out) | exact HB.out)))); have n2_ := Aside0.mk (blk_below (g := gb171) (o := .cells #[.slice Ao9 t166.length co9] 24 (0, 0)) (by (with_reducible repeat (first | refine blk_drewN ?_ _ | refine blk_drew ?_ | refine blk_alloc ?_ _)); refine blk_put (cs := #[.slice none 0 0]) ?_ 0 _ rfl; (with_reducible repeat (first | refine blk_drewN ?_ _ | refine blk_drew ?_ | refine blk_alloc ?_ _)); exact BK171.out) hb); have n3_ := Aside0.mk (below_step (by repeat (first | (with_reducible first | exact HB.out | apply below_alloc | apply pw_below_drewN | apply below_drew1 | refine below_set ?_ GE171.out) | exact HB.out)) hb); clear HO168; clear BK171; clear HB; have HO168 := n0_; have HO174 := n1_; have BK171 := n2_; have HB := n3_; clear n0_ n1_ n2_ n3_; (try clear hb); (try clear hb2); (try clear hk); (try clear hi); (try clear ho0)) | ((with_reducible refine gate_dst (N := 6) rfl ?_); refine box_event ?hg (N := 6) ?hd (cs := #[.slice none 0 0]) (t := 24) ?hr ?_; (case hd => rfl); (case hg => rfl); (case hr => first | (go_simp; done) | (go_simp; rfl)); intro gb177 hg w12 hbox hb; have n0_ := Aside0.mk (Kd.R_below (by (with_reducible repeat (first | apply Kd.R_alloc | apply Kd.R_drewN | apply Kd.R_drew)); exact HO168.out) hb); have n1_ := Aside0.mk (Kd.R_below (by (with_reducible repeat (first | apply Kd.R_alloc | apply Kd.R_drewN | apply Kd.R_drew)); exact HO174.out) hb); have n2_ := Aside0.mk (blk_below (g := gb171) (o := .cells #[.slice Ao9 t166.length co9] 24 (0, 0)) (by (with_reducible repeat (first | refine blk_drewN ?_ _ | refine blk_drew ?_ | refine blk_alloc ?_ _)); exact BK171.out) hb); have n3_ := Aside0.mk (below_step (by repeat (first | (with_reducible first | exact HB.out | apply below_alloc | apply pw_below_drewN | apply below_drew1 | refine below_set ?_ GE171.out) | exact HB.out)) hb); have n4_ := Aside0.mk (hbox); have n5_ := Aside0.mk ((by rw [hg]; exact (below_size (by repeat (first | (with_reducible first | exact HB.out | apply below_alloc | apply pw_below_drewN | apply below_drew1 | refine below_set ?_ GE171.out) | exact HB.out))) : w.heap.size ≤ gb177)); have n6_ := Aside0.mk ((by rw [hg]; exact (below_size (by repeat (first | (with_reducible first | exact HB.out | apply below_alloc | apply pw_below_drewN | apply below_drew1 | refine below_set ?_ GE171.out) | exact HB.out))) : w.heap.size ≤ gb177)); have n7_ := Aside0.mk ((by rw [hg]; exact Nat.ne_of_lt (blk_lt (g := gb171) (o := .cells #[.slice Ao9 t166.length co9] 24 (0, 0)) (by (with_reducible repeat (first | refine blk_drewN ?_ _ | refine blk_drew ?_ | refine blk_alloc ?_ _)); exact BK171.out)) : gb171 ≠ gb177)); have n8_ := Aside0.mk ((by rw [hg]; exact Nat.ne_of_gt (blk_lt (g := gb171) (o := .cells #[.slice Ao9 t166.length co9] 24 (0, 0)) (by (with_reducible repeat (first | refine blk_drewN ?_ _ | refine blk_drew ?_ | refine blk_alloc ?_ _)); exact BK171.out)) : gb177 ≠ gb171)); clear HO168; clear HO174; clear BK171; clear HB; have HO168 := n0_; have HO174 := n1_; have BK171 := n2_; have HB := n3_; have BK177 := n4_; have GW177 := n5_; have GE177 := n6_; have NB171_177 := n7_; have NB177_171 := n8_; clear n0_ n1_ n2_ n3_ n4_ n5_ n6_ n7_ n8_; clear hb hbox hg; obtain ⟨Ao13, co13, eo13⟩ := Kd.R_slice HO174.out; subst eo13; have hnb14 := NB177_171.out; have hnc14 := NB171_177.out; have hcz15_0 : w12.cell? ⟨gb177, 0, none⟩ = some (.slice none 0 0) := (blk_cell BK177.out 0).trans rfl; have hfz15_0 := blk_frozen BK177.out 0; have hcz16_0 : w12.cell? ⟨gb171, 0, none⟩ = some (.slice Ao9 t166.length co9) := (blk_cell BK171.out 0).trans rfl; have hfz16_0 := blk_frozen BK171.out 0) | ((with_reducible refine gate_callee (f := 9) rfl ?_); refine goesL_ (some 23) rfl rfl Tryd.func9 (by kernel_rfl) rfl #[.agg #[.slice Ao9 t166.length co9], .agg #[.slice Ao13 t172.length co13]] rfl (by (try simp only [List.map_toArray, List.map_cons, List.map_nil]); first | done | rfl | (simp only [List.length_drop, List.length_take]; rfl)) ?_; (with_reducible refine (monikerplain_SameTree.calls k _ _ t166 _ _ t172 true _ ?side1 ?side2 ?side3 ?side4 A4.out).mono ?_); (case side1 => refine (Kd.R_reads' (e := 43) (base := w.heap.size) (ok := fun k_ => (True ∧ some k_ ≠ (.slice Ao13 t172.length co13 : Value).ownBlock)) (n := t166.length) (c := co9) ?_).2.2; exact (by (with_reducible repeat (first | apply Kd.R_alloc | apply Kd.R_drewN | apply Kd.R_drew)); exact (Kd.R_mono (Kd.R_far (p := ⟨gb177, 0, none⟩) (Kd.R_types HO168.out BK177.out (by decide)) (fun _ hk => hk.2) (.slice Ao13 t172.length co13)) (fun _ h_ => h_.1)))); (case side2 => exact (Kd.R_reads' HO168.out).2.1); (case side3 => refine (Kd.R_reads' (e := 43) (base := w.heap.size) (ok := fun k_ => (True ∧ some k_ ≠ (.slice Ao9 t166.length co9 : Value).ownBlock)) (n := t172.length) (c := co13) ?_).2.2; exact (by (with_reducible repeat (first | apply Kd.R_alloc | apply Kd.R_drewN | apply Kd.R_drew)); exact (Kd.R_mono (Kd.R_far (p := ⟨gb177, 0, none⟩) (Kd.R_types HO174.out BK177.out (by decide)) (fun _ hk => hk.2) (.slice Ao13 t172.length co13)) (fun _ h_ => h_.1)))); (case side4 => exact (Kd.R_reads' HO174.out).2.1); rintro e w17 ⟨rfl, hb⟩; refine ⟨_, rfl, ?_⟩; have n0_ := Aside0.mk (Kd.R_below (by (with_reducible repeat (first | apply Kd.R_alloc | apply Kd.R_drewN | apply Kd.R_drew)); exact (Kd.R_mono (Kd.R_far (p := ⟨gb177, 0, none⟩) (Kd.R_types HO168.out BK177.out (by decide)) (fun _ hk => hk.2) (.slice Ao13 t172.length co13)) (fun _ h_ => h_.1))) hb); have n1_ := Aside0.mk (Kd.R_below (by (with_reducible repeat (first | apply Kd.R_alloc | apply Kd.R_drewN | apply Kd.R_drew)); exact (Kd.R_mono (Kd.R_far (p := ⟨gb177, 0, none⟩) (Kd.R_types HO174.out BK177.out (by decide)) (fun _ hk => hk.2) (.slice Ao13 t172.length co13)) (fun _ h_ => h_.1))) hb); have n2_ := Aside0.mk (blk_below (g := gb171) (o := .cells #[.slice Ao9 t166.length co9] 24 (0, 0)) (by (with_reducible repeat (first | refine blk_drewN ?_ _ | refine blk_drew ?_ | refine blk_alloc ?_ _)); refine blk_far ?_ NB171_177.out _; (with_reducible repeat (first | refine blk_drewN ?_ _ | refine blk_drew ?_ | refine blk_alloc ?_ _)); exact BK171.out) hb); have n3_ := Aside0.mk (blk_below (g := gb177) (o := .cells #[.slice Ao13 t172.length co13] 24 (0, 0)) (by (with_reducible repeat (first | refine blk_drewN ?_ _ | refine blk_drew ?_ | refine blk_alloc ?_ _)); refine blk_put (cs := #[.slice none 0 0]) ?_ 0 _ rfl; (with_reducible repeat (first | refine blk_drewN ?_ _ | refine blk_drew ?_ | refine blk_alloc ?_ _)); exact BK177.out) hb); have n4_ := Aside0.mk (below_step (by repeat (first | (with_reducible first | exact HB.out | apply below_alloc | apply pw_below_drewN | apply below_drew1 | refine below_set ?_ GE171.out | refine below_set ?_ GE177.out) | exact HB.out)) hb); clear HO168; clear HO174; clear BK171; clear BK177; clear HB; have HO168 := n0_; have HO174 := n1_; have BK171 := n2_; have BK177 := n3_; have HB := n4_; clear n0_ n1_ n2_ n3_ n4_; (try clear hb); (try clear hb2); (try clear hk); (try clear hi)))
      go_ret
      exact ⟨by first | rfl | (simp [errW_none, errW_some] <;> rfl) | (simp [*, errW_none, errW_some] <;> rfl), by repeat (first | (with_reducible first | exact HB.out | apply below_alloc | apply pw_below_drewN | apply below_drew1 | refine below_set ?_ GE171.out | refine below_set ?_ GE177.out) | exact HB.out)⟩
    · rw [if_neg c6] at H
      have c6b0 : (t169 == t175) = false := beq_eq_false_iff_ne.mpr c6
      have c6b1 : (t169 != t175) = true := bne_iff_ne.mpr c6
      obtain rfl := Option.some.inj H
      go_enter Tryd.func3, Tryd.ntmps3
      go_wp2_with (first | ((with_reducible refine gate_callee (f := 7) rfl ?_); refine goesL_ (some 11) rfl rfl Tryd.func7 (by kernel_rfl) rfl #[.string a0] rfl (by (try simp only [List.map_toArray, List.map_cons, List.map_nil]); first | done | rfl | (simp only [List.length_drop, List.length_take]; rfl)) ?_; (with_reducible refine (tree_Draw.calls k a0 t166 t169 t170 _ A2.out (SG.below HSG.out (by repeat (first | (with_reducible first | exact HB.out | apply below_alloc | apply pw_below_drewN | apply below_drew1 | refine below_set ?_ GE171.out | refine below_set ?_ GE177.out) | exact HB.out)))).mono ?_); rintro e w18 ⟨v167, rfl, ho0, hb⟩; refine ⟨_, rfl, ?_⟩; have n0_ := Aside0.mk (Kd.R_lower ho0 (below_size (by repeat (first | (with_reducible first | exact HB.out | apply below_alloc | apply pw_below_drewN | apply below_drew1) | exact HB.out)))); have n1_ := Aside0.mk (below_step (by repeat (first | (with_reducible first | exact HB.out | apply below_alloc | apply pw_below_drewN | apply below_drew1) | exact HB.out)) hb); clear HB; have HO168 := n0_; have HB := n1_; clear n0_ n1_; (try clear hb); (try clear hb2); (try clear hk); (try clear hi); (try clear ho0)) | ((with_reducible refine gate_dst (N := 3) rfl ?_); refine box_event ?hg (N := 3) ?hd (cs := #[.slice none 0 0]) (t := 24) ?hr ?_; (case hd => rfl); (case hg => rfl); (case hr => first | (go_simp; done) | (go_simp; rfl)); intro gb171 hg w19 hbox hb; have n0_ := Aside0.mk (Kd.R_below (by (with_reducible repeat (first | apply Kd.R_alloc | apply Kd.R_drewN | apply Kd.R_drew)); exact HO168.out) hb); have n1_ := Aside0.mk (below_step (by repeat (first | (with_reducible first | exact HB.out | apply below_alloc | apply pw_below_drewN | apply below_drew1) | exact HB.out)) hb); have n2_ := Aside0.mk (hbox); have n3_ := Aside0.mk ((by rw [hg]; exact (below_size (by repeat (first | (with_reducible first | exact HB.out | apply below_alloc | apply pw_below_drewN | apply below_drew1) | exact HB.out))) : w.heap.size ≤ gb171)); have n4_ := Aside0.mk ((by rw [hg]; exact (below_size (by repeat (first | (with_reducible first | exact HB.out | apply below_alloc | apply pw_below_drewN | apply below_drew1) | exact HB.out))) : w.heap.size ≤ gb171)); clear HO168; clear HB; have HO168 := n0_; have HB := n1_; have BK171 := n2_; have GW171 := n3_; have GE171 := n4_; clear n0_ n1_ n2_ n3_ n4_; clear hb hbox hg; obtain ⟨Ao20, co20, eo20⟩ := Kd.R_slice HO168.out; subst eo20; have hcz21_0 : w19.cell? ⟨gb171, 0, none⟩ = some (.slice none 0 0) := (blk_cell BK171.out 0).trans rfl; have hfz21_0 := blk_frozen BK171.out 0) | ((with_reducible refine gate_callee (f := 8) rfl ?_); refine goesL_ (some 17) rfl rfl Tryd.func8 (by kernel_rfl) rfl #[.string a0] rfl (by (try simp only [List.map_toArray, List.map_cons, List.map_nil]); first | done | rfl | (simp only [List.length_drop, List.length_take]; rfl)) ?_; (with_reducible refine (monikerref4_Draw.calls k a0 t172 t175 t176 _ A3.out (SG.below HSG.out (by repeat (first | (with_reducible first | exact HB.out | apply below_alloc | apply pw_below_drewN | apply below_drew1 | refine below_set ?_ GE171.out | refine below_set ?_ GE177.out) | exact HB.out)))).mono ?_); rintro e w22 ⟨v173, rfl, ho0, hb⟩; refine ⟨_, rfl, ?_⟩; have n0_ := Aside0.mk (Kd.R_elder' (by (with_reducible repeat (first | apply Kd.R_alloc | apply Kd.R_drewN | apply Kd.R_drew)); exact (Kd.R_mono (Kd.R_far (p := ⟨gb171, 0, none⟩) (Kd.R_types HO168.out BK171.out (by decide)) (fun _ hk => hk.2) (.slice Ao20 t166.length co20)) (fun _ h_ => h_.1))) (Kd.R_base ho0) hb); have n1_ := Aside0.mk (Kd.R_lower (Kd.R_new' ho0 (Kd.R_lt (by (with_reducible repeat (first | apply Kd.R_alloc | apply Kd.R_drewN | apply Kd.R_drew)); exact (Kd.R_mono (Kd.R_far (p := ⟨gb171, 0, none⟩) (Kd.R_types HO168.out BK171.out (by decide)) (fun _ hk => hk.2) (.slice Ao20 t166.length co20)) (fun _ h_ => h_.1))))) (below_size (by repeat (first | (with_reducible first | exact HB.out | apply below_alloc | apply pw_below_drewN | apply below_drew1 | refine below_set ?_ GE171.out) | exact HB.out)))); have n2_ := Aside0.mk (blk_below (g := gb171) (o := .cells #[.slice Ao20 t166.length co20] 24 (0, 0)) (by (with_reducible repeat (first | refine blk_drewN ?_ _ | refine blk_drew ?_ | refine blk_alloc ?_ _)); refine blk_put (cs := #[.slice none 0 0]) ?_ 0 _ rfl; (with_reducible repeat (first | refine blk_drewN ?_ _ | refine blk_drew ?_ | refine blk_alloc ?_ _)); exact BK171.out) hb); have n3_ := Aside0.mk (below_step (by repeat (first | (with_reducible first | exact HB.out | apply below_alloc | apply pw_below_drewN | apply below_drew1 | refine below_set ?_ GE171.out) | exact HB.out)) hb); clear HO168; clear BK171; clear HB; have HO168 := n0_; have HO174 := n1_; have BK171 := n2_; have HB := n3_; clear n0_ n1_ n2_ n3_; (try clear hb); (try clear hb2); (try clear hk); (try clear hi); (try clear ho0)) | ((with_reducible refine gate_dst (N := 6) rfl ?_); refine box_event ?hg (N := 6) ?hd (cs := #[.slice none 0 0]) (t := 24) ?hr ?_; (case hd => rfl); (case hg => rfl); (case hr => first | (go_simp; done) | (go_simp; rfl)); intro gb177 hg w23 hbox hb; have n0_ := Aside0.mk (Kd.R_below (by (with_reducible repeat (first | apply Kd.R_alloc | apply Kd.R_drewN | apply Kd.R_drew)); exact HO168.out) hb); have n1_ := Aside0.mk (Kd.R_below (by (with_reducible repeat (first | apply Kd.R_alloc | apply Kd.R_drewN | apply Kd.R_drew)); exact HO174.out) hb); have n2_ := Aside0.mk (blk_below (g := gb171) (o := .cells #[.slice Ao20 t166.length co20] 24 (0, 0)) (by (with_reducible repeat (first | refine blk_drewN ?_ _ | refine blk_drew ?_ | refine blk_alloc ?_ _)); exact BK171.out) hb); have n3_ := Aside0.mk (below_step (by repeat (first | (with_reducible first | exact HB.out | apply below_alloc | apply pw_below_drewN | apply below_drew1 | refine below_set ?_ GE171.out) | exact HB.out)) hb); have n4_ := Aside0.mk (hbox); have n5_ := Aside0.mk ((by rw [hg]; exact (below_size (by repeat (first | (with_reducible first | exact HB.out | apply below_alloc | apply pw_below_drewN | apply below_drew1 | refine below_set ?_ GE171.out) | exact HB.out))) : w.heap.size ≤ gb177)); have n6_ := Aside0.mk ((by rw [hg]; exact (below_size (by repeat (first | (with_reducible first | exact HB.out | apply below_alloc | apply pw_below_drewN | apply below_drew1 | refine below_set ?_ GE171.out) | exact HB.out))) : w.heap.size ≤ gb177)); have n7_ := Aside0.mk ((by rw [hg]; exact Nat.ne_of_lt (blk_lt (g := gb171) (o := .cells #[.slice Ao20 t166.length co20] 24 (0, 0)) (by (with_reducible repeat (first | refine blk_drewN ?_ _ | refine blk_drew ?_ | refine blk_alloc ?_ _)); exact BK171.out)) : gb171 ≠ gb177)); have n8_ := Aside0.mk ((by rw [hg]; exact Nat.ne_of_gt (blk_lt (g := gb171) (o := .cells #[.slice Ao20 t166.length co20] 24 (0, 0)) (by (with_reducible repeat (first | refine blk_drewN ?_ _ | refine blk_drew ?_ | refine blk_alloc ?_ _)); exact BK171.out)) : gb177 ≠ gb171)); clear HO168; clear HO174; clear BK171; clear HB; have HO168 := n0_; have HO174 := n1_; have BK171 := n2_; have HB := n3_; have BK177 := n4_; have GW177 := n5_; have GE177 := n6_; have NB171_177 := n7_; have NB177_171 := n8_; clear n0_ n1_ n2_ n3_ n4_ n5_ n6_ n7_ n8_; clear hb hbox hg; obtain ⟨Ao24, co24, eo24⟩ := Kd.R_slice HO174.out; subst eo24; have hnb25 := NB177_171.out; have hnc25 := NB171_177.out; have hcz26_0 : w23.cell? ⟨gb177, 0, none⟩ = some (.slice none 0 0) := (blk_cell BK177.out 0).trans rfl; have hfz26_0 := blk_frozen BK177.out 0; have hcz27_0 : w23.cell? ⟨gb171, 0, none⟩ = some (.slice Ao20 t166.length co20) := (blk_cell BK171.out 0).trans rfl; have hfz27_0 := blk_frozen BK171.out 0) | ((with_reducible refine gate_callee (f := 9) rfl ?_); refine goesL_ (some 23) rfl rfl Tryd.func9 (by kernel_rfl) rfl #[.agg #[.slice Ao20 t166.length co20], .agg #[.slice Ao24 t172.length co24]] rfl (by (try simp only [List.map_toArray, List.map_cons, List.map_nil]); first | done | rfl | (simp only [List.length_drop, List.length_take]; rfl)) ?_; (with_reducible refine (monikerplain_SameTree.calls k _ _ t166 _ _ t172 true _ ?side1 ?side2 ?side3 ?side4 A4.out).mono ?_); (case side1 => refine (Kd.R_reads' (e := 43) (base := w.heap.size) (ok := fun k_ => (True ∧ some k_ ≠ (.slice Ao24 t172.length co24 : Value).ownBlock)) (n := t166.length) (c := co20) ?_).2.2; exact (by (with_reducible repeat (first | apply Kd.R_alloc | apply Kd.R_drewN | apply Kd.R_drew)); exact (Kd.R_mono (Kd.R_far (p := ⟨gb177, 0, none⟩) (Kd.R_types HO168.out BK177.out (by decide)) (fun _ hk => hk.2) (.slice Ao24 t172.length co24)) (fun _ h_ => h_.1)))); (case side2 => exact (Kd.R_reads' HO168.out).2.1); (case side3 => refine (Kd.R_reads' (e := 43) (base := w.heap.size) (ok := fun k_ => (True ∧ some k_ ≠ (.slice Ao20 t166.length co20 : Value).ownBlock)) (n := t172.length) (c := co24) ?_).2.2; exact (by (with_reducible repeat (first | apply Kd.R_alloc | apply Kd.R_drewN | apply Kd.R_drew)); exact (Kd.R_mono (Kd.R_far (p := ⟨gb177, 0, none⟩) (Kd.R_types HO174.out BK177.out (by decide)) (fun _ hk => hk.2) (.slice Ao24 t172.length co24)) (fun _ h_ => h_.1)))); (case side4 => exact (Kd.R_reads' HO174.out).2.1); rintro e w28 ⟨rfl, hb⟩; refine ⟨_, rfl, ?_⟩; have n0_ := Aside0.mk (Kd.R_below (by (with_reducible repeat (first | apply Kd.R_alloc | apply Kd.R_drewN | apply Kd.R_drew)); exact (Kd.R_mono (Kd.R_far (p := ⟨gb177, 0, none⟩) (Kd.R_types HO168.out BK177.out (by decide)) (fun _ hk => hk.2) (.slice Ao24 t172.length co24)) (fun _ h_ => h_.1))) hb); have n1_ := Aside0.mk (Kd.R_below (by (with_reducible repeat (first | apply Kd.R_alloc | apply Kd.R_drewN | apply Kd.R_drew)); exact (Kd.R_mono (Kd.R_far (p := ⟨gb177, 0, none⟩) (Kd.R_types HO174.out BK177.out (by decide)) (fun _ hk => hk.2) (.slice Ao24 t172.length co24)) (fun _ h_ => h_.1))) hb); have n2_ := Aside0.mk (blk_below (g := gb171) (o := .cells #[.slice Ao20 t166.length co20] 24 (0, 0)) (by (with_reducible repeat (first | refine blk_drewN ?_ _ | refine blk_drew ?_ | refine blk_alloc ?_ _)); refine blk_far ?_ NB171_177.out _; (with_reducible repeat (first | refine blk_drewN ?_ _ | refine blk_drew ?_ | refine blk_alloc ?_ _)); exact BK171.out) hb); have n3_ := Aside0.mk (blk_below (g := gb177) (o := .cells #[.slice Ao24 t172.length co24] 24 (0, 0)) (by (with_reducible repeat (first | refine blk_drewN ?_ _ | refine blk_drew ?_ | refine blk_alloc ?_ _)); refine blk_put (cs := #[.slice none 0 0]) ?_ 0 _ rfl; (with_reducible repeat (first | refine blk_drewN ?_ _ | refine blk_drew ?_ | refine blk_alloc ?_ _)); exact BK177.out) hb); have n4_ := Aside0.mk (below_step (by repeat (first | (with_reducible first | exact HB.out | apply below_alloc | apply pw_below_drewN | apply below_drew1 | refine below_set ?_ GE171.out | refine below_set ?_ GE177.out) | exact HB.out)) hb); clear HO168; clear HO174; clear BK171; clear BK177; clear HB; have HO168 := n0_; have HO174 := n1_; have BK171 := n2_; have BK177 := n3_; have HB := n4_; clear n0_ n1_ n2_ n3_ n4_; (try clear hb); (try clear hb2); (try clear hk); (try clear hi)))
      go_ret
      exact ⟨by first | rfl | (simp [errW_none, errW_some] <;> rfl) | (simp [*, errW_none, errW_some] <;> rfl), by repeat (first | (with_reducible first | exact HB.out | apply below_alloc | apply pw_below_drewN | apply below_drew1 | refine below_set ?_ GE171.out | refine below_set ?_ GE177.out) | exact HB.out)⟩
  · replace c5 := Bool.eq_false_iff.mpr c5
    subst c5
    have H1 : (some false) = some r := by rw [if_neg (show ¬ (false = true) by decide)] at H; exact H
    clear H
    have H := H1
    clear H1
    obtain rfl := Option.some.inj H
    go_enter Tryd.func3, Tryd.ntmps3
    go_wp2_with (first | ((with_reducible refine gate_callee (f := 7) rfl ?_); refine goesL_ (some 11) rfl rfl Tryd.func7 (by kernel_rfl) rfl #[.string a0] rfl (by (try simp only [List.map_toArray, List.map_cons, List.map_nil]); first | done | rfl | (simp only [List.length_drop, List.length_take]; rfl)) ?_; (with_reducible refine (tree_Draw.calls k a0 t166 t169 t170 _ A2.out (SG.below HSG.out (by repeat (first | (with_reducible first | exact HB.out | apply below_alloc | apply pw_below_drewN | apply below_drew1 | refine below_set ?_ GE171.out | refine below_set ?_ GE177.out) | exact HB.out)))).mono ?_); rintro e w29 ⟨v167, rfl, ho0, hb⟩; refine ⟨_, rfl, ?_⟩; have n0_ := Aside0.mk (Kd.R_lower ho0 (below_size (by repeat (first | (with_reducible first | exact HB.out | apply below_alloc | apply pw_below_drewN | apply below_drew1) | exact HB.out)))); have n1_ := Aside0.mk (below_step (by repeat (first | (with_reducible first | exact HB.out | apply below_alloc | apply pw_below_drewN | apply below_drew1) | exact HB.out)) hb); clear HB; have HO168 := n0_; have HB := n1_; clear n0_ n1_; (try clear hb); (try clear hb2); (try clear hk); (try clear hi); (try clear ho0)) | ((with_reducible refine gate_dst (N := 3) rfl ?_); refine box_event ?hg (N := 3) ?hd (cs := #[.slice none 0 0]) (t := 24) ?hr ?_; (case hd => rfl); (case hg => rfl); (case hr => first | (go_simp; done) | (go_simp; rfl)); intro gb171 hg w30 hbox hb; have n0_ := Aside0.mk (Kd.R_below (by (with_reducible repeat (first | apply Kd.R_alloc | apply Kd.R_drewN | apply Kd.R_drew)); exact HO168.out) hb); have n1_ := Aside0.mk (below_step (by repeat (first | (with_reducible first | exact HB.out | apply below_alloc | apply pw_below_drewN | apply below_drew1) | exact HB.out)) hb); have n2_ := Aside0.mk (hbox); have n3_ := Aside0.mk ((by rw [hg]; exact (below_size (by repeat (first | (with_reducible first | exact HB.out | apply below_alloc | apply pw_below_drewN | apply below_drew1) | exact HB.out))) : w.heap.size ≤ gb171)); have n4_ := Aside0.mk ((by rw [hg]; exact (below_size (by repeat (first | (with_reducible first | exact HB.out | apply below_alloc | apply pw_below_drewN | apply below_drew1) | exact HB.out))) : w.heap.size ≤ gb171)); clear HO168; clear HB; have HO168 := n0_; have HB := n1_; have BK171 := n2_; have GW171 := n3_; have GE171 := n4_; clear n0_ n1_ n2_ n3_ n4_; clear hb hbox hg; obtain ⟨Ao31, co31, eo31⟩ := Kd.R_slice HO168.out; subst eo31; have hcz32_0 : w30.cell? ⟨gb171, 0, none⟩ = some (.slice none 0 0) := (blk_cell BK171.out 0).trans rfl; have hfz32_0 := blk_frozen BK171.out 0) | ((with_reducible refine gate_callee (f := 8) rfl ?_); refine goesL_ (some 17) rfl rfl Tryd.func8 (by kernel_rfl) rfl #[.string a0] rfl (by (try simp only [List.map_toArray, List.map_cons, List.map_nil]); first | done | rfl | (simp only [List.length_drop, List.length_take]; rfl)) ?_; (with_reducible refine (monikerref4_Draw.calls k a0 t172 t175 t176 _ A3.out (SG.below HSG.out (by repeat (first | (with_reducible first | exact HB.out | apply below_alloc | apply pw_below_drewN | apply below_drew1 | refine below_set ?_ GE171.out | refine below_set ?_ GE177.out) | exact HB.out)))).mono ?_); rintro e w33 ⟨v173, rfl, ho0, hb⟩; refine ⟨_, rfl, ?_⟩; have n0_ := Aside0.mk (Kd.R_elder' (by (with_reducible repeat (first | apply Kd.R_alloc | apply Kd.R_drewN | apply Kd.R_drew)); exact (Kd.R_mono (Kd.R_far (p := ⟨gb171, 0, none⟩) (Kd.R_types HO168.out BK171.out (by decide)) (fun _ hk => hk.2) (.slice Ao31 t166.length co31)) (fun _ h_ => h_.1))) (Kd.R_base ho0) hb); have n1_ := Aside0.mk (Kd.R_lower (Kd.R_new' ho0 (Kd.R_lt (by (with_reducible repeat (first | apply Kd.R_alloc | apply Kd.R_drewN | apply Kd.R_drew)); exact (Kd.R_mono (Kd.R_far (p := ⟨gb171, 0, none⟩) (Kd.R_types HO168.out BK171.out (by decide)) (fun _ hk => hk.2) (.slice Ao31 t166.length co31)) (fun _ h_ => h_.1))))) (below_size (by repeat (first | (with_reducible first | exact HB.out | apply below_alloc | apply pw_below_drewN | apply below_drew1 | refine below_set ?_ GE171.out) | exact HB.out)))); have n2_ := Aside0.mk (blk_below (g := gb171) (o := .cells #[.slice Ao31 t166.length co31] 24 (0, 0)) (by (with_reducible repeat (first | refine blk_drewN ?_ _ | refine blk_drew ?_ | refine blk_alloc ?_ _)); refine blk_put (cs := #[.slice none 0 0]) ?_ 0 _ rfl; (with_reducible repeat (first | refine blk_drewN ?_ _ | refine blk_drew ?_ | refine blk_alloc ?_ _)); exact BK171.out) hb); have n3_ := Aside0.mk (below_step (by repeat (first | (with_reducible first | exact HB.out | apply below_alloc | apply pw_below_drewN | apply below_drew1 | refine below_set ?_ GE171.out) | exact HB.out)) hb); clear HO168; clear BK171; clear HB; have HO168 := n0_; have HO174 := n1_; have BK171 := n2_; have HB := n3_; clear n0_ n1_ n2_ n3_; (try clear hb); (try clear hb2); (try clear hk); (try clear hi); (try clear ho0)) | ((with_reducible refine gate_dst (N := 6) rfl ?_); refine box_event ?hg (N := 6) ?hd (cs := #[.slice none 0 0]) (t := 24) ?hr ?_; (case hd => rfl); (case hg => rfl); (case hr => first | (go_simp; done) | (go_simp; rfl)); intro gb177 hg w34 hbox hb; have n0_ := Aside0.mk (Kd.R_below (by (with_reducible repeat (first | apply Kd.R_alloc | apply Kd.R_drewN | apply Kd.R_drew)); exact HO168.out) hb); have n1_ := Aside0.mk (Kd.R_below (by (with_reducible repeat (first | apply Kd.R_alloc | apply Kd.R_drewN | apply Kd.R_drew)); exact HO174.out) hb); have n2_ := Aside0.mk (blk_below (g := gb171) (o := .cells #[.slice Ao31 t166.length co31] 24 (0, 0)) (by (with_reducible repeat (first | refine blk_drewN ?_ _ | refine blk_drew ?_ | refine blk_alloc ?_ _)); exact BK171.out) hb); have n3_ := Aside0.mk (below_step (by repeat (first | (with_reducible first | exact HB.out | apply below_alloc | apply pw_below_drewN | apply below_drew1 | refine below_set ?_ GE171.out) | exact HB.out)) hb); have n4_ := Aside0.mk (hbox); have n5_ := Aside0.mk ((by rw [hg]; exact (below_size (by repeat (first | (with_reducible first | exact HB.out | apply below_alloc | apply pw_below_drewN | apply below_drew1 | refine below_set ?_ GE171.out) | exact HB.out))) : w.heap.size ≤ gb177)); have n6_ := Aside0.mk ((by rw [hg]; exact (below_size (by repeat (first | (with_reducible first | exact HB.out | apply below_alloc | apply pw_below_drewN | apply below_drew1 | refine below_set ?_ GE171.out) | exact HB.out))) : w.heap.size ≤ gb177)); have n7_ := Aside0.mk ((by rw [hg]; exact Nat.ne_of_lt (blk_lt (g := gb171) (o := .cells #[.slice Ao31 t166.length co31] 24 (0, 0)) (by (with_reducible repeat (first | refine blk_drewN ?_ _ | refine blk_drew ?_ | refine blk_alloc ?_ _)); exact BK171.out)) : gb171 ≠ gb177)); have n8_ := Aside0.mk ((by rw [hg]; exact Nat.ne_of_gt (blk_lt (g := gb171) (o := .cells #[.slice Ao31 t166.length co31] 24 (0, 0)) (by (with_reducible repeat (first | refine blk_drewN ?_ _ | refine blk_drew ?_ | refine blk_alloc ?_ _)); exact BK171.out)) : gb177 ≠ gb171)); clear HO168; clear HO174; clear BK171; clear HB; have HO168 := n0_; have HO174 := n1_; have BK171 := n2_; have HB := n3_; have BK177 := n4_; have GW177 := n5_; have GE177 := n6_; have NB171_177 := n7_; have NB177_171 := n8_; clear n0_ n1_ n2_ n3_ n4_ n5_ n6_ n7_ n8_; clear hb hbox hg; obtain ⟨Ao35, co35, eo35⟩ := Kd.R_slice HO174.out; subst eo35; have hnb36 := NB177_171.out; have hnc36 := NB171_177.out; have hcz37_0 : w34.cell? ⟨gb177, 0, none⟩ = some (.slice none 0 0) := (blk_cell BK177.out 0).trans rfl; have hfz37_0 := blk_frozen BK177.out 0; have hcz38_0 : w34.cell? ⟨gb171, 0, none⟩ = some (.slice Ao31 t166.length co31) := (blk_cell BK171.out 0).trans rfl; have hfz38_0 := blk_frozen BK171.out 0) | ((with_reducible refine gate_callee (f := 9) rfl ?_); refine goesL_ (some 23) rfl rfl Tryd.func9 (by kernel_rfl) rfl #[.agg #[.slice Ao31 t166.length co31], .agg #[.slice Ao35 t172.length co35]] rfl (by (try simp only [List.map_toArray, List.map_cons, List.map_nil]); first | done | rfl | (simp only [List.length_drop, List.length_take]; rfl)) ?_; (with_reducible refine (monikerplain_SameTree.calls k _ _ t166 _ _ t172 false _ ?side1 ?side2 ?side3 ?side4 A4.out).mono ?_); (case side1 => refine (Kd.R_reads' (e := 43) (base := w.heap.size) (ok := fun k_ => (True ∧ some k_ ≠ (.slice Ao35 t172.length co35 : Value).ownBlock)) (n := t166.length) (c := co31) ?_).2.2; exact (by (with_reducible repeat (first | apply Kd.R_alloc | apply Kd.R_drewN | apply Kd.R_drew)); exact (Kd.R_mono (Kd.R_far (p := ⟨gb177, 0, none⟩) (Kd.R_types HO168.out BK177.out (by decide)) (fun _ hk => hk.2) (.slice Ao35 t172.length co35)) (fun _ h_ => h_.1)))); (case side2 => exact (Kd.R_reads' HO168.out).2.1); (case side3 => refine (Kd.R_reads' (e := 43) (base := w.heap.size) (ok := fun k_ => (True ∧ some k_ ≠ (.slice Ao31 t166.length co31 : Value).ownBlock)) (n := t172.length) (c := co35) ?_).2.2; exact (by (with_reducible repeat (first | apply Kd.R_alloc | apply Kd.R_drewN | apply Kd.R_drew)); exact (Kd.R_mono (Kd.R_far (p := ⟨gb177, 0, none⟩) (Kd.R_types HO174.out BK177.out (by decide)) (fun _ hk => hk.2) (.slice Ao35 t172.length co35)) (fun _ h_ => h_.1)))); (case side4 => exact (Kd.R_reads' HO174.out).2.1); rintro e w39 ⟨rfl, hb⟩; refine ⟨_, rfl, ?_⟩; have n0_ := Aside0.mk (Kd.R_below (by (with_reducible repeat (first | apply Kd.R_alloc | apply Kd.R_drewN | apply Kd.R_drew)); exact (Kd.R_mono (Kd.R_far (p := ⟨gb177, 0, none⟩) (Kd.R_types HO168.out BK177.out (by decide)) (fun _ hk => hk.2) (.slice Ao35 t172.length co35)) (fun _ h_ => h_.1))) hb); have n1_ := Aside0.mk (Kd.R_below (by (with_reducible repeat (first | apply Kd.R_alloc | apply Kd.R_drewN | apply Kd.R_drew)); exact (Kd.R_mono (Kd.R_far (p := ⟨gb177, 0, none⟩) (Kd.R_types HO174.out BK177.out (by decide)) (fun _ hk => hk.2) (.slice Ao35 t172.length co35)) (fun _ h_ => h_.1))) hb); have n2_ := Aside0.mk (blk_below (g := gb171) (o := .cells #[.slice Ao31 t166.length co31] 24 (0, 0)) (by (with_reducible repeat (first | refine blk_drewN ?_ _ | refine blk_drew ?_ | refine blk_alloc ?_ _)); refine blk_far ?_ NB171_177.out _; (with_reducible repeat (first | refine blk_drewN ?_ _ | refine blk_drew ?_ | refine blk_alloc ?_ _)); exact BK171.out) hb); have n3_ := Aside0.mk (blk_below (g := gb177) (o := .cells #[.slice Ao35 t172.length co35] 24 (0, 0)) (by (with_reducible repeat (first | refine blk_drewN ?_ _ | refine blk_drew ?_ | refine blk_alloc ?_ _)); refine blk_put (cs := #[.slice none 0 0]) ?_ 0 _ rfl; (with_reducible repeat (first | refine blk_drewN ?_ _ | refine blk_drew ?_ | refine blk_alloc ?_ _)); exact BK177.out) hb); have n4_ := Aside0.mk (below_step (by repeat (first | (with_reducible first | exact HB.out | apply below_alloc | apply pw_below_drewN | apply below_drew1 | refine below_set ?_ GE171.out | refine below_set ?_ GE177.out) | exact HB.out)) hb); clear HO168; clear HO174; clear BK171; clear BK177; clear HB; have HO168 := n0_; have HO174 := n1_; have BK171 := n2_; have BK177 := n3_; have HB := n4_; clear n0_ n1_ n2_ n3_ n4_; (try clear hb); (try clear hb2); (try clear hk); (try clear hi)))
    go_ret
    exact ⟨by first | rfl | (simp [errW_none, errW_some] <;> rfl) | (simp [*, errW_none, errW_some] <;> rfl), by repeat (first | (with_reducible first | exact HB.out | apply below_alloc | apply pw_below_drewN | apply below_drew1 | refine below_set ?_ GE171.out | refine below_set ?_ GE177.out) | exact HB.out)⟩

end Go.Proofs.YtodldpdnhcafpaaDoor.F

-- TreeDraws, plainly: both readers of a sketch say the same
namespace Go.Proofs.YtodldpdnhcafpaaDoor.Q
open Go.RowKit Go.Proofs.YtodldpdnhcafpaaDoorW.PrintWords Go.Proofs.YtodldpdnhcafpaaDoorW.PrintLast Go.Proofs.YtodldpdnhcafpaaDoorW.PrintMore
open Go.Proofs.YtodldpdnhcafpaaDoor.F Classical
set_option linter.unusedSimpArgs false
set_option linter.unusedVariables false
structure NI (w : ByteArray) (i : Nat) (k : Int) (b : Bool) : Prop where
  in_ : -1 ≤ k ∧ k < i
  yes : ∀ j : Nat, k = j → nm j = w
  no : k < 0 → ∀ j, j < i → nm j ≠ w
  beg : b = true ↔ ∃ j, j < i ∧ w.size ≤ (nm j).size ∧ (nm j).extract 0 w.size = w
theorem NI.zero (w : ByteArray) : NI w 0 (-1) false := ⟨by omega, fun j h => by omega, fun _ j h => absurd h (Nat.not_lt_zero _), ⟨(fun h => by cases h), fun ⟨j, h, _⟩ => absurd h (Nat.not_lt_zero _)⟩⟩
theorem NI.step {w : ByteArray} {i : Nat} {k : Int} {b : Bool} (h : NI w i k b) : NI w (i + 1) (if nm i = w then (i : Int) else k) (if w.size ≤ (nm i).size ∧ (nm i).extract 0 w.size = w then true else b) := by
  have i1 := h.in_
  refine ⟨by split <;> omega, fun j hj => ?_, fun hn j hj => ?_, ?_⟩
  · split at hj
    · rename_i c
      have : i = j := by omega
      rw [← this]; exact c
    · exact h.yes j hj
  · split at hn
    · omega
    · rename_i c
      by_cases e : j = i
      · rw [e]; exact c
      · exact h.no hn j (by omega)
  · split
    · rename_i c
      exact ⟨fun _ => ⟨i, by omega, c⟩, fun _ => rfl⟩
    · rename_i c
      rw [h.beg]
      constructor
      · rintro ⟨j, hj, z⟩
        exact ⟨j, by omega, z⟩
      · rintro ⟨j, hj, z⟩
        by_cases e : j = i
        · subst e; exact absurd z c
        · exact ⟨j, by omega, z⟩
theorem name_l0 (w : ByteArray) : ∀ (d i : Nat) (k : Int) (b : Bool), 58 - i = d → i ≤ 58 → NI w i k b → ∃ K B, NI w 58 K B ∧ Ev (fun n => monikerref4_name.l0 n w k b (i : Int)) (K, B)
  | 0, i, k, b, hd, hi, h => by
    obtain rfl : i = 58 := by omega
    refine ⟨k, b, h, Ev.step (f := fun _ => some (k, b)) (fun n => ?_) (Ev.now _)⟩
    simp only [monikerref4_name.l0]
    rw [if_neg (by omega)]
  | d + 1, i, k, b, hd, hi, h => by
    obtain ⟨K, B, hg, he⟩ := name_l0 w d (i + 1) _ _ (by omega) (by omega) h.step
    refine ⟨K, B, hg, Ev.step (f := fun n => monikerref4_name.l0 n w (if nm i = w then (i : Int) else k) (if w.size ≤ (nm i).size ∧ (nm i).extract 0 w.size = w then true else b) ((i + 1 : Nat) : Int)) (fun n => ?_) he⟩
    have hr : rdOf ByteArray.empty tabG1 (i : Int) = nm i := rfl
    have hw : wrap64 ((i : Int) + 1) = ((i + 1 : Nat) : Int) := by rw [w64 (by omega) (by omega)]; rfl
    simp only [monikerref4_name.l0, hr, hw, toList_iff, Int.toNat_natCast]
    rw [if_pos (by omega), if_pos (by omega)]
    have hsz : (((nm i).size : Int) ≥ (w.size : Int)) ↔ w.size ≤ (nm i).size := by omega
    have hs0 : (0 : Int) ≤ (w.size : Int) := by omega
    have hs2 : ((w.size : Int) ≤ ((nm i).size : Int)) ↔ w.size ≤ (nm i).size := by omega
    simp only [hsz, hs2, if_pos hs0]
    by_cases c1 : nm i = w
    · rw [if_pos c1, if_pos c1]
      by_cases c2 : w.size ≤ (nm i).size
      · rw [if_pos c2, if_pos c2]
        by_cases c3 : (nm i).extract 0 w.size = w
        · rw [if_pos c3, if_pos ⟨c2, c3⟩]
        · rw [if_neg c3, if_neg (fun z => c3 z.2)]
      · rw [if_neg c2, if_neg (fun z => c2 z.1)]
    · rw [if_neg c1, if_neg c1]
      by_cases c2 : w.size ≤ (nm i).size
      · rw [if_pos c2, if_pos c2]
        by_cases c3 : (nm i).extract 0 w.size = w
        · rw [if_pos c3, if_pos ⟨c2, c3⟩]
        · rw [if_neg c3, if_neg (fun z => c3 z.2)]
      · rw [if_neg c2, if_neg (fun z => c2 z.1)]
theorem name_is (w : ByteArray) : ∃ K B, NI w 58 K B ∧ Ev (fun n => monikerref4_name.f n w) (K, B) := name_l0 w 58 0 (-1) false rfl (by omega) (NI.zero w)
theorem ex_ex (s : ByteArray) {i l : Nat} (h : i + l ≤ s.size) : (s.extract i s.size).extract 0 l = s.extract i (i + l) := by
  refine ba_ext _ _ ?_ (fun j hj => ?_)
  · rw [ex_size _ (by rw [ex_size _ (Nat.le_refl _)]; omega), ex_size _ h]; omega
  · rw [ex_size _ (by rw [ex_size _ (Nat.le_refl _)]; omega)] at hj
    have e := bt_ext (s.extract i s.size) 0 l j (by omega) (by rw [ex_size _ (Nat.le_refl _)]; omega)
    rw [e, Nat.zero_add, bt_ext s i s.size j (by omega) (Nat.le_refl _), bt_ext s i (i + l) j (by omega) h]
/-- A name begins with the text's first bytes. -/
theorem beg_iff {t : ByteArray} {m : Nat} (hm : m ≤ t.size) {k : Int} {b : Bool} (h : NI (t.extract 0 m) 58 k b) : b = true ↔ ∃ j, j < 58 ∧ m ≤ lc t (nm j) := by
  rw [h.beg]
  have hs : (t.extract 0 m).size = m := by rw [ex_size _ hm]; omega
  rw [hs]
  constructor
  · rintro ⟨j, hj, a, c⟩
    exact ⟨j, hj, lc_max (Like.ext.2 ⟨hm, a, c⟩)⟩
  · rintro ⟨j, hj, a⟩
    have l := Like.ext.1 (Like.mono (lc_like t (nm j)) a)
    exact ⟨j, hj, l.2.1, l.2.2⟩
theorem name_LG {t : ByteArray} {K M K' : Int} {b : Bool} (h : LG t K M) (hn : NI (t.extract 0 M.toNat) 58 K' b) : K' = K := by
  have i1 := h.in_
  have i2 := hn.in_
  by_cases c : K < 0
  · by_cases c' : K' < 0
    · omega
    · obtain ⟨n, rfl⟩ : ∃ n : Nat, K' = n := ⟨K'.toNat, by omega⟩
      exact absurd (hn.yes n rfl) (h.no c n (by omega))
  · obtain ⟨n, rfl⟩ : ∃ n : Nat, K = n := ⟨K.toNat, by omega⟩
    by_cases c' : K' < 0
    · exact absurd (h.yes n rfl) (hn.no c' n (by omega))
    · obtain ⟨n', rfl⟩ : ∃ n : Nat, K' = n := ⟨K'.toNat, by omega⟩
      rw [nm_inj (i := n') (j := n) (by omega) (by omega) ((hn.yes n' rfl).trans (h.yes n rfl).symm)]
theorem LG.m0 {t : ByteArray} {k m : Int} (h : LG t k m) : 0 ≤ m ∧ m ≤ t.size := by
  rcases h.got with e | ⟨j, hj, e⟩
  · omega
  · have := (lc_le t (nm j)).1; omega
theorem LG.pos {t : ByteArray} {k m : Int} (h : LG t k m) (hk : ¬ k < 0) : 1 ≤ m := by
  have m0 := h.m0
  have i1 := h.in_
  obtain ⟨n, rfl⟩ : ∃ n : Nat, k = n := ⟨k.toNat, by omega⟩
  have e := h.yes n rfl
  have s0 := (nm_size (i := n) (by omega)).1
  rw [e, ex_size _ (by omega)] at s0
  omega
theorem hp_is (s : ByteArray) (a : Nat) (ha : a ≤ s.size) (c : UInt8) : strings_HasPrefix.f (s.extract a s.size) ⟨#[c]⟩ = some (decide (a < s.size ∧ bt s (a : Int) = (c.toNat : Int))) := by
  have hsz : (s.extract a s.size).size = s.size - a := ex_size _ (Nat.le_refl _)
  have h1 : (⟨#[c]⟩ : ByteArray).size = 1 := rfl
  unfold strings_HasPrefix.f stringslite_HasPrefix.f
  rw [h1, hsz]
  by_cases c1 : a < s.size
  · rw [if_pos (by omega), if_pos (by omega), if_pos (by omega), Option.bind_some]
    congr 1
    have hb : bt s (a : Int) = bt ((s.extract a s.size).extract 0 1) ((0 : Nat) : Int) := by
      rw [bt_ext (s.extract a s.size) 0 1 0 (by omega) (by omega), bt_ext s a s.size (0 + 0) (by omega) (Nat.le_refl _)]
      rfl
    by_cases c2 : bt s (a : Int) = (c.toNat : Int)
    · rw [decide_eq_true ⟨c1, c2⟩, beq_iff_eq]
      show ((s.extract a s.size).extract 0 1).toList = _
      refine toList_iff.2 (ba_ext _ _ (by rw [ex_size _ (by omega)]; rfl) (fun i hi => ?_))
      rw [ex_size _ (by omega)] at hi
      obtain rfl : i = 0 := by omega
      rw [← hb, c2]
      rfl
    · rw [decide_eq_false (fun z => c2 z.2), beq_eq_false_iff_ne]
      show ((s.extract a s.size).extract 0 1).toList ≠ _
      intro e
      rw [hb, toList_iff.1 e] at c2
      exact c2 rfl
  · rw [if_neg (by omega), decide_eq_false (fun z => c1 z.1)]
    rfl
/-- What the longest name at a text's beginning is. -/
noncomputable def lgo (t : ByteArray) : Int × Int := if h : ∃ p : Int × Int, LG t p.1 p.2 then Classical.choose h else (-1, 0)
theorem lgo_is {t : ByteArray} (hs : t.size ≤ 9223372036854775806) : LG t (lgo t).1 (lgo t).2 := by
  obtain ⟨K, M, h, _⟩ := longest_is t hs
  have hx : ∃ p : Int × Int, LG t p.1 p.2 := ⟨(K, M), h⟩
  unfold lgo
  rw [dif_pos hx]
  exact Classical.choose_spec hx
theorem lgo_of {t : ByteArray} {k m : Int} (h : LG t k m) : lgo t = (k, m) := by
  have hx : ∃ p : Int × Int, LG t p.1 p.2 := ⟨(k, m), h⟩
  unfold lgo
  rw [dif_pos hx]
  obtain ⟨a, b⟩ := (Classical.choose_spec hx).one h
  exact Prod.ext a b
theorem longest_lgo {t : ByteArray} (hs : t.size ≤ 9223372036854775806) : Ev (fun n => tree_longest.f n t) (lgo t) := by
  obtain ⟨K, M, h, he⟩ := longest_is t hs
  rw [lgo_of h]
  exact he
/-- The closing brackets at a place. -/
noncomputable def cls (s : ByteArray) : Nat → Nat → List Int → List S43 → Nat × List Int × List S43
  | 0, a, o, ns => (a, o, ns)
  | d + 1, a, o, ns => if a < s.size ∧ bt s (a : Int) = 41 ∧ 0 < o.length then
      cls s d (a + 1) (o.take (o.length - 1)) (ns.set (rd o ((o.length - 1 : Nat) : Int)).toNat ⟨(rd_T43 ns (rd o ((o.length - 1 : Nat) : Int))).f0, (rd_T43 ns (rd o ((o.length - 1 : Nat) : Int))).f1, (rd_T43 ns (rd o ((o.length - 1 : Nat) : Int))).f2, (ns.length : Int) - rd o ((o.length - 1 : Nat) : Int)⟩)
    else (a, o, ns)
/-- What both readers say. -/
noncomputable def dgo (s : ByteArray) : Nat → Nat → List Int → List S43 → List S43 × Int × Int
  | 0, _, _, _ => ([], 40, 0)
  | d + 1, a, o, ns =>
    if (lgo (s.extract a s.size)).1 < 0 then ([], 40, (a : Int) + (lgo (s.extract a s.size)).2)
    else if a + (lgo (s.extract a s.size)).2.toNat < s.size ∧ bt s ((a + (lgo (s.extract a s.size)).2.toNat : Nat) : Int) = 40 then
      dgo s d (a + (lgo (s.extract a s.size)).2.toNat + 1) (o ++ [(ns.length : Int)]) (ns ++ [⟨(lgo (s.extract a s.size)).1, 0, 0, 1⟩])
    else
      let q := cls s s.size (a + (lgo (s.extract a s.size)).2.toNat) o (ns ++ [⟨(lgo (s.extract a s.size)).1, 0, 0, 1⟩])
      if q.2.1 = [] then (if q.1 = s.size then (q.2.2, 0, 0) else ([], 40, (q.1 : Int)))
      else if q.1 < s.size ∧ bt s (q.1 : Int) = 32 then dgo s d (q.1 + 1) q.2.1 q.2.2 else ([], 40, (q.1 : Int))
/-- What holds of the open ones and of the nodes. -/
structure DI (s : ByteArray) (a : Nat) (o : List Int) (ns : List S43) : Prop where
  at_ : a ≤ s.size
  len : ns.length ≤ a
  ol : o.length ≤ ns.length
  in_ : ∀ x ∈ o, 0 ≤ x ∧ x < (ns.length : Int)
theorem rd_last {o : List Int} {n : Nat} (h : n < o.length) : rd o (n : Int) ∈ o := by
  have e : rd o (n : Int) = o[n] := by simp [rd, List.getD_eq_getElem?_getD, h]
  rw [e]
  exact List.getElem_mem h
theorem DI.close {s : ByteArray} {a : Nat} {o : List Int} {ns : List S43} (h : DI s a o ns) (ha : a < s.size) (x : S43) (q : Nat) : DI s (a + 1) (o.take (o.length - 1)) (ns.set q x) :=
  ⟨ha, by rw [List.length_set]; have := h.len; omega, by rw [List.length_set, List.length_take]; have := h.ol; omega, fun y hy => by rw [List.length_set]; exact h.in_ y (List.mem_of_mem_take hy)⟩
theorem cls_DI (s : ByteArray) : ∀ (d a : Nat) (o : List Int) (ns : List S43), DI s a o ns → DI s (cls s d a o ns).1 (cls s d a o ns).2.1 (cls s d a o ns).2.2 ∧ a ≤ (cls s d a o ns).1
  | 0, a, o, ns, h => ⟨h, Nat.le_refl _⟩
  | d + 1, a, o, ns, h => by
    simp only [cls]
    split
    · rename_i c
      obtain ⟨x, y⟩ := cls_DI s d (a + 1) _ _ (h.close c.1 _ _)
      exact ⟨x, by omega⟩
    · exact ⟨h, Nat.le_refl _⟩
theorem DI.node {s : ByteArray} {a : Nat} {o : List Int} {ns : List S43} (h : DI s a o ns) {m : Nat} (hm : 1 ≤ m) (ha : a + m ≤ s.size) (x : S43) : DI s (a + m) o (ns ++ [x]) :=
  ⟨ha, by rw [List.length_append, List.length_singleton]; have := h.len; omega, by rw [List.length_append, List.length_singleton]; have := h.ol; omega, fun y hy => by rw [List.length_append, List.length_singleton]; have := h.in_ y hy; omega⟩
theorem DI.open_ {s : ByteArray} {a : Nat} {o : List Int} {ns : List S43} (h : DI s a o ns) {m : Nat} (hm : 1 ≤ m) (ha : a + m < s.size) (x : S43) : DI s (a + m + 1) (o ++ [(ns.length : Int)]) (ns ++ [x]) :=
  ⟨ha, by rw [List.length_append, List.length_singleton]; have := h.len; omega, by rw [List.length_append, List.length_append, List.length_singleton, List.length_singleton]; have := h.ol; omega, fun y hy => by
    rw [List.length_append, List.length_singleton]
    rcases List.mem_append.1 hy with e | e
    · have := h.in_ y e; omega
    · rw [List.mem_singleton.1 e]; omega⟩
theorem DI.gap {s : ByteArray} {a : Nat} {o : List Int} {ns : List S43} (h : DI s a o ns) (ha : a < s.size) : DI s (a + 1) o ns := ⟨ha, by have := h.len; omega, h.ol, h.in_⟩
theorem ar_last {l : Nat} (h : 0 < l) (h2 : l ≤ 1048576) : wrap64 ((l : Int) - 1) = ((l - 1 : Nat) : Int) ∧ (l : Int) > 0 ∧ (0 : Int) ≤ ((l - 1 : Nat) : Int) ∧ ((l - 1 : Nat) : Int) < (l : Int) ∧ ((l - 1 : Nat) : Int) ≤ (l : Int) :=
  ⟨by rw [w64 (by omega) (by omega)]; omega, by omega, by omega, by omega, by omega⟩
theorem ar_at {a z : Nat} (h : a ≤ z) (hz : z ≤ 1048576) : wrap64 ((a : Int) + 1) = ((a + 1 : Nat) : Int) ∧ (0 : Int) ≤ (a : Int) ∧ (a : Int) ≤ (z : Int) := ⟨by rw [w64 (by omega) (by omega)]; rfl, by omega, by omega⟩
theorem ar_sub {n : Nat} {q : Int} (h0 : 0 ≤ q) (h1 : q < (n : Int)) (hn : n ≤ 1048576) : wrap64 ((n : Int) - q) = (n : Int) - q := w64 (by omega) (by omega)
theorem l1_yes (s : ByteArray) (hs : s.size ≤ 1048576) {a : Nat} {o : List Int} {ns : List S43} (hi : DI s a o ns) (c1 : 0 < o.length) (c2 : a < s.size ∧ bt s (a : Int) = ((41 : UInt8).toNat : Int)) (n : Nat) :
    tree_Draw.l1 (n + 1) s o ns (a : Int) = tree_Draw.l1 n s (o.take (o.length - 1)) (ns.set (rd o ((o.length - 1 : Nat) : Int)).toNat ⟨(rd_T43 ns (rd o ((o.length - 1 : Nat) : Int))).f0, (rd_T43 ns (rd o ((o.length - 1 : Nat) : Int))).f1, (rd_T43 ns (rd o ((o.length - 1 : Nat) : Int))).f2, (ns.length : Int) - rd o ((o.length - 1 : Nat) : Int)⟩) ((a + 1 : Nat) : Int) := by
  have hp := hp_is s a hi.at_ 41
  have hr := hi.in_ _ (rd_last (n := o.length - 1) (Nat.sub_lt c1 Nat.one_pos))
  have hol : o.length ≤ 1048576 := Nat.le_trans hi.ol (Nat.le_trans hi.len (Nat.le_trans hi.at_ hs))
  have hnl : ns.length ≤ 1048576 := Nat.le_trans hi.len (Nat.le_trans hi.at_ hs)
  obtain ⟨w1, q1, q4, q5, q6⟩ := ar_last c1 hol
  obtain ⟨w2, q2, q3⟩ := ar_at hi.at_ hs
  have w3 := ar_sub hr.1 hr.2 hnl
  have qt : True := trivial
  rw [tree_Draw.l1]
  simp only [w1, w2, w3, Int.toNat_natCast, hp, decide_eq_true c2, Option.bind_some]
  rw [if_pos q1, if_pos q2, if_pos q3, if_pos qt, if_pos q4, if_pos q5, if_pos hr.1, if_pos hr.2, if_pos q6]
theorem l1_no (s : ByteArray) (hs : s.size ≤ 1048576) {a : Nat} {o : List Int} {ns : List S43} (hi : DI s a o ns) (c : ¬ (a < s.size ∧ bt s (a : Int) = ((41 : UInt8).toNat : Int) ∧ 0 < o.length)) (n : Nat) :
    tree_Draw.l1 (n + 1) s o ns (a : Int) = tree_Draw.j2 n s o ns (a : Int) := by
  have hp := hp_is s a hi.at_ 41
  have hol : o.length ≤ 1048576 := Nat.le_trans hi.ol (Nat.le_trans hi.len (Nat.le_trans hi.at_ hs))
  obtain ⟨w2, q2, q3⟩ := ar_at hi.at_ hs
  rw [tree_Draw.l1]
  by_cases c1 : 0 < o.length
  · have c2 : ¬ (a < s.size ∧ bt s (a : Int) = ((41 : UInt8).toNat : Int)) := fun z => c ⟨z.1, z.2, c1⟩
    obtain ⟨w1, q1, q4, q5, q6⟩ := ar_last c1 hol
    have qf : ¬ False := fun z => z
    simp only [Int.toNat_natCast, hp, decide_eq_false c2, Option.bind_some, Bool.false_eq_true]
    rw [if_pos q1, if_pos q2, if_pos q3, if_neg qf]
  · have q1 : ¬ (o.length : Int) > 0 := fun z => c1 (Int.natCast_pos.1 z)
    rw [if_neg q1]
/-- tree.Draw's closing loop. -/
theorem draw_l1 (s : ByteArray) (hs : s.size ≤ 1048576) (r : List S43 × Int × Int) : ∀ (d a : Nat) (o : List Int) (ns : List S43), s.size - a ≤ d → DI s a o ns →
    Ev (fun n => tree_Draw.j2 n s (cls s d a o ns).2.1 (cls s d a o ns).2.2 ((cls s d a o ns).1 : Int)) r → Ev (fun n => tree_Draw.l1 n s o ns (a : Int)) r
  | 0, a, o, ns, hd, hi, h => Ev.step (fun n => l1_no s hs hi (fun z => by have := z.1; omega) n) h
  | d + 1, a, o, ns, hd, hi, h => by
    simp only [cls] at h
    by_cases c : a < s.size ∧ bt s (a : Int) = 41 ∧ 0 < o.length
    · rw [if_pos c] at h
      exact Ev.step (fun n => l1_yes s hs hi c.2.2 ⟨c.1, c.2.1⟩ n) (draw_l1 s hs r d (a + 1) _ _ (by have := c.1; omega) (hi.close c.1 _ _) h)
    · rw [if_neg c] at h
      exact Ev.step (fun n => l1_no s hs hi c n) h
/-- What comes behind the closing brackets. -/
noncomputable def dend (s : ByteArray) (d a : Nat) (o : List Int) (ns : List S43) : List S43 × Int × Int :=
  if o = [] then (if a = s.size then (ns, 0, 0) else ([], 40, (a : Int)))
  else if a < s.size ∧ bt s (a : Int) = 32 then dgo s d (a + 1) o ns else ([], 40, (a : Int))
theorem len0 {o : List Int} : ((o.length : Int) = 0) ↔ o = [] := by
  rw [← List.length_eq_zero_iff]
  omega
theorem draw_j2 (s : ByteArray) (hs : s.size ≤ 1048576) {d a : Nat} {o : List Int} {ns : List S43} (hi : DI s a o ns)
    (ih : a < s.size → Ev (fun n => tree_Draw.l0 n s o ns ((a + 1 : Nat) : Int)) (dgo s d (a + 1) o ns)) : Ev (fun n => tree_Draw.j2 n s o ns (a : Int)) (dend s d a o ns) := by
  have hp := hp_is s a hi.at_ 32
  obtain ⟨w2, q2, q3⟩ := ar_at hi.at_ hs
  have hz : (((a : Nat) : Int) == (s.size : Int)) = decide (a = s.size) := by
    by_cases e : a = s.size
    · rw [decide_eq_true e, e]; simp
    · rw [decide_eq_false e]; simp; exact fun z => e (Int.ofNat.inj z)
  unfold dend
  by_cases c : o = []
  · rw [if_pos c]
    refine Ev.step (f := fun n => tree_Draw.j3 n s o (((a : Nat) : Int) == (s.size : Int)) ns (a : Int)) (fun n => by rw [tree_Draw.j2, if_pos (len0.2 c)]) ?_
    rw [hz]
    by_cases e : a = s.size
    · rw [if_pos e, decide_eq_true e]
      exact Ev.step (f := fun _ => some (ns, 0, 0)) (fun n => by rw [tree_Draw.j3, if_pos rfl]) (Ev.now _)
    · rw [if_neg e, decide_eq_false e]
      refine Ev.step (f := fun _ => some (([] : List S43), (40 : Int), (a : Int))) (fun n => ?_) (Ev.now _)
      rw [tree_Draw.j3, if_neg (fun z => by cases z), if_pos (len0.2 c)]
      rfl
  · rw [if_neg c]
    refine Ev.step (f := fun n => tree_Draw.j3 n s o false ns (a : Int)) (fun n => by rw [tree_Draw.j2, if_neg (fun z => c (len0.1 z))]) ?_
    by_cases e : a < s.size ∧ bt s (a : Int) = ((32 : UInt8).toNat : Int)
    · rw [if_pos (show a < s.size ∧ bt s (a : Int) = 32 from e)]
      refine Ev.step (fun n => ?_) (ih e.1)
      rw [tree_Draw.j3, if_neg (fun z => by cases z), if_neg (fun z => c (len0.1 z)), if_pos q2, if_pos q3]
      simp only [Int.toNat_natCast, hp, decide_eq_true e, Option.bind_some, w2]
      rw [if_pos trivial]
    · rw [if_neg (show ¬ (a < s.size ∧ bt s (a : Int) = 32) from e)]
      refine Ev.step (f := fun _ => some (([] : List S43), (40 : Int), (a : Int))) (fun n => ?_) (Ev.now _)
      rw [tree_Draw.j3, if_neg (fun z => by cases z), if_neg (fun z => c (len0.1 z)), if_pos q2, if_pos q3]
      simp only [Int.toNat_natCast, hp, decide_eq_false e, Option.bind_some, Bool.false_eq_true]
      rw [if_neg (fun z => z)]
      rfl
theorem ar_add {a m z : Nat} (h : a + m ≤ z) (hz : z ≤ 1048576) : wrap64 ((a : Int) + (m : Int)) = ((a + m : Nat) : Int) := by rw [w64 (by omega) (by omega)]; rfl
theorem dgo_succ (s : ByteArray) (d a : Nat) (o : List Int) (ns : List S43) {K : Int} {M : Nat} (h : lgo (s.extract a s.size) = (K, (M : Int))) : dgo s (d + 1) a o ns =
    if K < 0 then ([], 40, ((a + M : Nat) : Int))
    else if a + M < s.size ∧ bt s ((a + M : Nat) : Int) = 40 then dgo s d (a + M + 1) (o ++ [(ns.length : Int)]) (ns ++ [⟨K, 0, 0, 1⟩])
    else dend s d (cls s s.size (a + M) o (ns ++ [⟨K, 0, 0, 1⟩])).1 (cls s s.size (a + M) o (ns ++ [⟨K, 0, 0, 1⟩])).2.1 (cls s s.size (a + M) o (ns ++ [⟨K, 0, 0, 1⟩])).2.2 := by
  rw [dgo]
  simp only [h, Int.toNat_natCast]
  rfl
theorem mod256 {K : Int} (h0 : ¬ K < 0) (h1 : K < 58) : K % 256 = K := by omega
/-- A node behind its name. -/
def dbody (k : Nat) (x0 : ByteArray) (x6 : List Int) (x109000 : List S43) (x110000 : Int) (bt110 : Int × Int) : Option (List S43 × Int × Int) := (if bt110.1 < 0 then ((tree_fault.f k (wrap64 (x110000 + bt110.2))).bind fun bt112 => (some (bt112.1, bt112.2.1, bt112.2.2))) else (if x109000.length < 4398046511104 then ((some (x109000 ++ [(⟨(bt110.1) % 256, 0, 0, 1⟩ : S43)] : List (S43))).bind fun y117 => (if 0 ≤ (wrap64 (x110000 + bt110.2)) then (if (wrap64 (x110000 + bt110.2)) ≤ (x0.size : Int) then ((strings_HasPrefix.f (x0.extract ((wrap64 (x110000 + bt110.2)) : Int).toNat x0.size) (⟨#[40]⟩ : ByteArray)).bind fun t120 => (if t120 = true then (if x6.length < 17592186044416 then (tree_Draw.l0 k x0 (x6 ++ [wrap64 ((y117.length : Int) - 1)]) y117 (wrap64 ((wrap64 (x110000 + bt110.2)) + 1))) else (none)) else (tree_Draw.l1 k x0 x6 y117 (wrap64 (x110000 + bt110.2))))) else (none)) else (none))) else (none)))
/-- tree.Draw, from a node on. -/
theorem draw_l0 (s : ByteArray) (hs : s.size ≤ 1048576) : ∀ (d a : Nat) (o : List Int) (ns : List S43), s.size - a ≤ d → DI s a o ns → Ev (fun n => tree_Draw.l0 n s o ns (a : Int)) (dgo s (d + 1) a o ns)
  | d, a, o, ns, hd, hi => by
    have hts : (s.extract a s.size).size ≤ 9223372036854775806 := by rw [ex_size _ (Nat.le_refl _)]; omega
    have hL := lgo_is hts
    have hE := longest_lgo hts
    obtain ⟨K, M, hKM⟩ : ∃ (K : Int) (M : Nat), lgo (s.extract a s.size) = (K, (M : Int)) := by
      refine ⟨(lgo (s.extract a s.size)).1, (lgo (s.extract a s.size)).2.toNat, Prod.ext rfl ?_⟩
      exact (Int.toNat_of_nonneg hL.m0.1).symm
    rw [hKM] at hL hE
    have hm := hL.m0
    rw [ex_size _ (Nat.le_refl _)] at hm
    have ha := hi.at_
    have hM : a + M ≤ s.size := by omega
    obtain ⟨w2, q2, q3⟩ := ar_at ha hs
    obtain ⟨w5, q5, q6⟩ := ar_at hM hs
    have w3 := ar_add hM hs
    have hp := hp_is s (a + M) hM 40
    have hin := hL.in_
    rw [dgo_succ s d a o ns hKM]
    have hnl : ns.length < 4398046511104 := by have := hi.len; omega
    have hol : o.length < 17592186044416 := by have := hi.len; have := hi.ol; omega
    have hwl : wrap64 (((ns ++ [(⟨K, 0, 0, 1⟩ : S43)]).length : Int) - 1) = (ns.length : Int) := by
      rw [List.length_append, List.length_singleton, w64 (by have := hi.len; omega) (by have := hi.len; omega)]; omega
    refine Ev.step (f := fun n => (tree_longest.f n (s.extract a s.size)).bind fun bt => dbody n s o ns (a : Int) bt) (fun n => by rw [tree_Draw.l0, if_pos q2, if_pos q3]; rfl) (Ev.bind hE ?_)
    unfold dbody
    simp only [w3]
    by_cases ck : K < 0
    · simp only [if_pos ck]
      exact Ev.now _
    · have hpos : 1 ≤ M := by have := hL.pos ck; omega
      simp only [if_neg ck, mod256 ck hin.2, if_pos hnl, Option.bind_some, if_pos q5, if_pos q6, Int.toNat_natCast, hp, w5, hwl]
      by_cases c : a + M < s.size ∧ bt s ((a + M : Nat) : Int) = ((40 : UInt8).toNat : Int)
      · simp only [decide_eq_true c, if_true, if_pos hol]
        rw [if_pos (show a + M < s.size ∧ bt s ((a + M : Nat) : Int) = 40 from c)]
        obtain ⟨d, rfl⟩ : ∃ e, d = e + 1 := ⟨d - 1, by omega⟩
        exact draw_l0 s hs d (a + M + 1) _ _ (by omega) (hi.open_ hpos c.1 _)
      · simp only [decide_eq_false c, Bool.false_eq_true, if_false]
        rw [if_neg (show ¬ (a + M < s.size ∧ bt s ((a + M : Nat) : Int) = 40) from c)]
        have hn := hi.node hpos hM ⟨K, 0, 0, 1⟩
        refine draw_l1 s hs _ s.size (a + M) _ _ (by omega) hn ?_
        obtain ⟨x, y⟩ := cls_DI s s.size (a + M) _ _ hn
        refine draw_j2 s hs x (fun z => ?_)
        obtain ⟨d, rfl⟩ : ∃ e, d = e + 1 := ⟨d - 1, by omega⟩
        exact draw_l0 s hs d _ _ _ (by omega) (x.gap z)
termination_by d => d
/-! ### The document's reader -/
theorem ref_l2_yes (s : ByteArray) (hs : s.size ≤ 1048576) {a : Nat} {o : List Int} {ns : List S43} (hi : DI s a o ns) (c : a < s.size ∧ bt s (a : Int) = 41 ∧ 0 < o.length) (n : Nat) :
    monikerref4_Draw.l2 (n + 1) s ns o (a : Int) = monikerref4_Draw.l2 n s (ns.set (rd o ((o.length - 1 : Nat) : Int)).toNat ⟨(rd_T43 ns (rd o ((o.length - 1 : Nat) : Int))).f0, (rd_T43 ns (rd o ((o.length - 1 : Nat) : Int))).f1, (rd_T43 ns (rd o ((o.length - 1 : Nat) : Int))).f2, (ns.length : Int) - rd o ((o.length - 1 : Nat) : Int)⟩) (o.take (o.length - 1)) ((a + 1 : Nat) : Int) := by
  obtain ⟨c0, c2, c1⟩ := c
  have hr := hi.in_ _ (rd_last (n := o.length - 1) (Nat.sub_lt c1 Nat.one_pos))
  have hol : o.length ≤ 1048576 := Nat.le_trans hi.ol (Nat.le_trans hi.len (Nat.le_trans hi.at_ hs))
  have hnl : ns.length ≤ 1048576 := Nat.le_trans hi.len (Nat.le_trans hi.at_ hs)
  obtain ⟨w1, q1, q4, q5, q6⟩ := ar_last c1 hol
  obtain ⟨w2, q2, q3⟩ := ar_at hi.at_ hs
  have w3 := ar_sub hr.1 hr.2 hnl
  have q0 : (a : Int) < (s.size : Int) := Int.ofNat_lt.2 c0
  rw [monikerref4_Draw.l2]
  simp only [w1, w2, w3, Int.toNat_natCast]
  rw [if_pos q0, if_pos q2, if_pos c2, if_pos q1, if_pos q4, if_pos q5, if_pos hr.1, if_pos hr.2, if_pos q6]
theorem ref_l2_no (s : ByteArray) (hs : s.size ≤ 1048576) {a : Nat} {o : List Int} {ns : List S43} (hi : DI s a o ns) (c : ¬ (a < s.size ∧ bt s (a : Int) = 41 ∧ 0 < o.length)) (n : Nat) :
    monikerref4_Draw.l2 (n + 1) s ns o (a : Int) = monikerref4_Draw.j5 n s ns o (a : Int) := by
  obtain ⟨w2, q2, q3⟩ := ar_at hi.at_ hs
  rw [monikerref4_Draw.l2]
  by_cases c0 : a < s.size
  · rw [if_pos (Int.ofNat_lt.2 c0), if_pos q2]
    by_cases c2 : bt s (a : Int) = 41
    · rw [if_pos c2]
      have q1 : ¬ (o.length : Int) > 0 := fun z => c ⟨c0, c2, Int.natCast_pos.1 z⟩
      rw [if_neg q1]
    · rw [if_neg c2]
  · rw [if_neg (fun z => c0 (Int.ofNat_lt.1 z))]
theorem ref_l2 (s : ByteArray) (hs : s.size ≤ 1048576) (r : List S43 × Int × Int) : ∀ (d a : Nat) (o : List Int) (ns : List S43), s.size - a ≤ d → DI s a o ns →
    Ev (fun n => monikerref4_Draw.j5 n s (cls s d a o ns).2.2 (cls s d a o ns).2.1 ((cls s d a o ns).1 : Int)) r → Ev (fun n => monikerref4_Draw.l2 n s ns o (a : Int)) r
  | 0, a, o, ns, hd, hi, h => Ev.step (fun n => ref_l2_no s hs hi (fun z => by have := z.1; omega) n) h
  | d + 1, a, o, ns, hd, hi, h => by
    simp only [cls] at h
    by_cases c : a < s.size ∧ bt s (a : Int) = 41 ∧ 0 < o.length
    · rw [if_pos c] at h
      exact Ev.step (fun n => ref_l2_yes s hs hi c n) (ref_l2 s hs r d (a + 1) _ _ (by have := c.1; omega) (hi.close c.1 _ _) h)
    · rw [if_neg c] at h
      exact Ev.step (fun n => ref_l2_no s hs hi c n) h
theorem ref_j5 (s : ByteArray) (hs : s.size ≤ 1048576) {d a : Nat} {o : List Int} {ns : List S43} (hi : DI s a o ns)
    (ih : a < s.size → Ev (fun n => monikerref4_Draw.l0 n s ns o ((a + 1 : Nat) : Int)) (dgo s d (a + 1) o ns)) : Ev (fun n => monikerref4_Draw.j5 n s ns o (a : Int)) (dend s d a o ns) := by
  obtain ⟨w2, q2, q3⟩ := ar_at hi.at_ hs
  have ha := hi.at_
  unfold dend
  by_cases c : o = []
  · rw [if_pos c]
    by_cases e : a = s.size
    · rw [if_pos e]
      refine Ev.step (f := fun _ => some (ns, (0 : Int), (0 : Int))) (fun n => ?_) (Ev.now _)
      rw [monikerref4_Draw.j5, if_pos (len0.2 c), if_neg (fun z => by have := Int.ofNat_lt.1 z; omega)]
    · rw [if_neg e]
      refine Ev.step (f := fun _ => some (([] : List S43), (40 : Int), (a : Int))) (fun n => ?_) (Ev.now _)
      rw [monikerref4_Draw.j5, if_pos (len0.2 c), if_pos (Int.ofNat_lt.2 (by omega))]
  · rw [if_neg c]
    by_cases e : a = s.size
    · rw [if_neg (fun z => by have := z.1; omega)]
      refine Ev.step (f := fun _ => some (([] : List S43), (40 : Int), (a : Int))) (fun n => ?_) (Ev.now _)
      rw [monikerref4_Draw.j5, if_neg (fun z => c (len0.1 z)), if_pos (by rw [e])]
    · have ha2 : a < s.size := by omega
      have ne : ¬ (a : Int) = (s.size : Int) := fun z => e (Int.ofNat.inj z)
      by_cases e2 : bt s (a : Int) = 32
      · rw [if_pos ⟨ha2, e2⟩]
        refine Ev.step (fun n => ?_) (ih ha2)
        rw [monikerref4_Draw.j5, if_neg (fun z => c (len0.1 z)), if_neg ne, if_pos q2, if_pos (Int.ofNat_lt.2 ha2), if_pos e2, w2]
      · rw [if_neg (fun z => e2 z.2)]
        refine Ev.step (f := fun _ => some (([] : List S43), (40 : Int), (a : Int))) (fun n => ?_) (Ev.now _)
        rw [monikerref4_Draw.j5, if_neg (fun z => c (len0.1 z)), if_neg ne, if_pos q2, if_pos (Int.ofNat_lt.2 ha2), if_neg e2]
/-- How far some name goes. -/
theorem ref_l1 (s : ByteArray) (hs : s.size ≤ 1048576) {a : Nat} {o : List Int} {ns : List S43} {K : Int} {M : Nat} (hL : LG (s.extract a s.size) K (M : Int)) (ha : a ≤ s.size) (hM : a + M ≤ s.size) (r : List S43 × Int × Int)
    (h : Ev (fun n => monikerref4_Draw.j2 n s ns o (a : Int) ((a + M : Nat) : Int)) r) : ∀ (d m : Nat), M - m = d → m ≤ M → Ev (fun n => monikerref4_Draw.l1 n s ns o (a : Int) ((a + m : Nat) : Int)) r
  | d, m, hd, hm => by
    have hsz : (s.extract a s.size).size = s.size - a := ex_size _ (Nat.le_refl _)
    by_cases c : a + m < s.size
    · have hx : (s.extract a s.size).extract 0 (m + 1) = s.extract a (a + (m + 1)) := ex_ex s (by omega)
      obtain ⟨K', B, hn, he⟩ := name_is (s.extract a (a + (m + 1)))
      rw [← hx] at hn
      have hb := beg_iff (by rw [hsz]; omega) hn
      have w1 : wrap64 (((a + m : Nat) : Int) + 1) = ((a + (m + 1) : Nat) : Int) := by rw [w64 (by omega) (by omega)]; rfl
      have q1 : ((a + m : Nat) : Int) < (s.size : Int) := Int.ofNat_lt.2 c
      have q2 : (0 : Int) ≤ (a : Int) := by omega
      have q3 : (a : Int) ≤ ((a + (m + 1) : Nat) : Int) := by omega
      have q4 : ((a + (m + 1) : Nat) : Int) ≤ (s.size : Int) := by omega
      refine Ev.step (f := fun n => (monikerref4_name.f n (s.extract a (a + (m + 1)))).bind fun bt115 => if bt115.2 = true then monikerref4_Draw.l1 n s ns o (a : Int) ((a + (m + 1) : Nat) : Int) else monikerref4_Draw.j2 n s ns o (a : Int) ((a + m : Nat) : Int)) (fun n => ?_) (Ev.bind he ?_)
      · rw [monikerref4_Draw.l1, if_pos q1]
        simp only [w1, Int.toNat_natCast]
        rw [if_pos q2, if_pos q3, if_pos q4]
      · by_cases c2 : m < M
        · have hB : B = true := hb.2 (by
            rcases hL.got with e | ⟨j, hj, e⟩
            · omega
            · exact ⟨j, hj, by omega⟩)
          simp only [hB, if_true]
          obtain ⟨d, rfl⟩ : ∃ e, d = e + 1 := ⟨d - 1, by omega⟩
          exact ref_l1 s hs hL ha hM r h d (m + 1) (by omega) (by omega)
        · have hB : B = false := by
            cases hB : B with
            | false => rfl
            | true =>
              obtain ⟨j, hj, e⟩ := hb.1 hB
              have := hL.up j hj
              omega
          obtain rfl : m = M := by omega
          simp only [hB, Bool.false_eq_true, if_false]
          exact h
    · obtain rfl : m = M := by omega
      refine Ev.step (fun n => ?_) h
      rw [monikerref4_Draw.l1, if_neg (fun z => c (Int.ofNat_lt.1 z))]
termination_by d => d
theorem ref_l0 (s : ByteArray) (hs : s.size ≤ 1048576) : ∀ (d a : Nat) (o : List Int) (ns : List S43), s.size - a ≤ d → DI s a o ns → Ev (fun n => monikerref4_Draw.l0 n s ns o (a : Int)) (dgo s (d + 1) a o ns)
  | d, a, o, ns, hd, hi => by
    have hsz : (s.extract a s.size).size = s.size - a := ex_size _ (Nat.le_refl _)
    have hts : (s.extract a s.size).size ≤ 9223372036854775806 := by rw [hsz]; omega
    have hL := lgo_is hts
    obtain ⟨K, M, hKM⟩ : ∃ (K : Int) (M : Nat), lgo (s.extract a s.size) = (K, (M : Int)) := by
      refine ⟨(lgo (s.extract a s.size)).1, (lgo (s.extract a s.size)).2.toNat, Prod.ext rfl ?_⟩
      exact (Int.toNat_of_nonneg hL.m0.1).symm
    rw [hKM] at hL
    have hm := hL.m0
    rw [hsz] at hm
    have ha := hi.at_
    have hM : a + M ≤ s.size := by omega
    obtain ⟨w5, q5, q6⟩ := ar_at hM hs
    have hin := hL.in_
    rw [dgo_succ s d a o ns hKM]
    have hnl : ns.length < 4398046511104 := by have := hi.len; omega
    have hol : o.length < 17592186044416 := by have := hi.len; have := hi.ol; omega
    have hwl : wrap64 (((ns ++ [(⟨K, 0, 0, 1⟩ : S43)]).length : Int) - 1) = (ns.length : Int) := by
      rw [List.length_append, List.length_singleton, w64 (by have := hi.len; omega) (by have := hi.len; omega)]; omega
    have q2 : (0 : Int) ≤ (a : Int) := by omega
    have q3 : (a : Int) ≤ ((a + M : Nat) : Int) := by omega
    have hx : (s.extract a s.size).extract 0 M = s.extract a (a + M) := ex_ex s hM
    obtain ⟨K', B, hn, he⟩ := name_is (s.extract a (a + M))
    rw [← hx] at hn
    obtain rfl : K' = K := name_LG hL hn
    refine Ev.step (f := fun n => monikerref4_Draw.l1 n s ns o (a : Int) ((a + 0 : Nat) : Int)) (fun n => by rw [monikerref4_Draw.l0]; rfl) (ref_l1 s hs hL ha hM _ ?_ M 0 rfl (Nat.zero_le _))
    refine Ev.step (f := fun n => (monikerref4_name.f n (s.extract a (a + M))).bind fun bt117 => (if bt117.1 < 0 then (some (([] : List (S43)), (40 : Int), ((a + M : Nat) : Int))) else (if ns.length < 4398046511104 then ((some (ns ++ [(⟨(bt117.1) % 256, 0, 0, 1⟩ : S43)] : List (S43))).bind fun y119 => (if ((a + M : Nat) : Int) < (s.size : Int) then (if (0 : Int) ≤ ((a + M : Nat) : Int) then (monikerref4_Draw.j3 n s y119 o ((a + M : Nat) : Int) ((bt s ((a + M : Nat) : Int)) == 40)) else (none)) else (monikerref4_Draw.j3 n s y119 o ((a + M : Nat) : Int) false))) else (none)))) (fun n => ?_) (Ev.bind he ?_)
    · rw [monikerref4_Draw.j2, if_pos q2, if_pos q3, if_pos q6]
      simp only [Int.toNat_natCast]
    by_cases ck : K' < 0
    · simp only [if_pos ck]
      exact Ev.now _
    · have hpos : 1 ≤ M := by have := hL.pos ck; omega
      simp only [if_neg ck, mod256 ck hin.2, if_pos hnl, Option.bind_some, if_pos q5]
      have hn := hi.node hpos hM ⟨K', 0, 0, 1⟩
      have hclose : Ev (fun n => monikerref4_Draw.l2 n s (ns ++ [⟨K', 0, 0, 1⟩]) o ((a + M : Nat) : Int)) (dend s d (cls s s.size (a + M) o (ns ++ [⟨K', 0, 0, 1⟩])).1 (cls s s.size (a + M) o (ns ++ [⟨K', 0, 0, 1⟩])).2.1 (cls s s.size (a + M) o (ns ++ [⟨K', 0, 0, 1⟩])).2.2) := by
        refine ref_l2 s hs _ s.size (a + M) _ _ (by omega) hn ?_
        obtain ⟨x, y⟩ := cls_DI s s.size (a + M) _ _ hn
        refine ref_j5 s hs x (fun z => ?_)
        obtain ⟨d, rfl⟩ : ∃ e, d = e + 1 := ⟨d - 1, by omega⟩
        exact ref_l0 s hs d _ _ _ (by omega) (x.gap z)
      by_cases c0 : a + M < s.size
      · have q7 : ((a + M : Nat) : Int) < (s.size : Int) := Int.ofNat_lt.2 c0
        simp only [if_pos q7]
        by_cases c : bt s ((a + M : Nat) : Int) = 40
        · rw [if_pos ⟨c0, c⟩]
          obtain ⟨d, rfl⟩ : ∃ e, d = e + 1 := ⟨d - 1, by omega⟩
          refine Ev.step (f := fun n => monikerref4_Draw.l0 n s (ns ++ [⟨K', 0, 0, 1⟩]) (o ++ [(ns.length : Int)]) ((a + M + 1 : Nat) : Int)) (fun n => ?_) (ref_l0 s hs d (a + M + 1) _ _ (by omega) (hi.open_ hpos c0 _))
          rw [monikerref4_Draw.j3, if_pos (by rw [c]; rfl), if_pos hol, hwl, w5]
        · rw [if_neg (fun z => c z.2)]
          refine Ev.step (fun n => ?_) hclose
          rw [monikerref4_Draw.j3, if_neg (by simpa using c)]
      · have q7 : ¬ ((a + M : Nat) : Int) < (s.size : Int) := fun z => c0 (Int.ofNat_lt.1 z)
        simp only [if_neg q7]
        rw [if_neg (fun z => c0 z.1)]
        refine Ev.step (fun n => ?_) hclose
        rw [monikerref4_Draw.j3, if_neg (fun z => by cases z)]
termination_by d => d
theorem DI.zero (s : ByteArray) : DI s 0 [] [] := ⟨Nat.zero_le _, Nat.le_refl _, Nat.le_refl _, fun x h => by cases h⟩
theorem dgo_len (s : ByteArray) : ∀ (d a : Nat) (o : List Int) (ns : List S43), DI s a o ns → s.size ≤ 9223372036854775806 → (dgo s d a o ns).1.length ≤ s.size
  | 0, a, o, ns, h, hs => by simp [dgo]
  | d + 1, a, o, ns, h, hs => by
    have hsz : (s.extract a s.size).size = s.size - a := ex_size _ (Nat.le_refl _)
    have hL := lgo_is (t := s.extract a s.size) (by rw [hsz]; omega)
    obtain ⟨K, M, hKM⟩ : ∃ (K : Int) (M : Nat), lgo (s.extract a s.size) = (K, (M : Int)) := by
      refine ⟨(lgo (s.extract a s.size)).1, (lgo (s.extract a s.size)).2.toNat, Prod.ext rfl ?_⟩
      exact (Int.toNat_of_nonneg hL.m0.1).symm
    rw [hKM] at hL
    have hm := hL.m0
    rw [hsz] at hm
    have ha := h.at_
    have hM : a + M ≤ s.size := by omega
    rw [dgo_succ s d a o ns hKM]
    split
    · simp
    · rename_i ck
      have hpos : 1 ≤ M := by have := hL.pos ck; omega
      split
      · rename_i c
        exact dgo_len s d _ _ _ (h.open_ hpos c.1 _) hs
      · have hn := h.node hpos hM ⟨K, 0, 0, 1⟩
        obtain ⟨x, y⟩ := cls_DI s s.size (a + M) _ _ hn
        unfold dend
        split
        · split
          · exact Nat.le_trans x.len x.at_
          · simp
        · split
          · rename_i z
            exact dgo_len s d _ _ _ (x.gap z.1) hs
          · simp
theorem Draws_is (s : ByteArray) (hs : s.size ≤ 1048576) : Ev (fun k => monikerlaw4_TreeDraws.f k s) true := by
  have h1 : Ev (fun k => tree_Draw.f k s) (dgo s (s.size + 1) 0 [] []) := draw_l0 s hs s.size 0 [] [] (by omega) (DI.zero s)
  have h2 : Ev (fun k => monikerref4_Draw.f k s) (dgo s (s.size + 1) 0 [] []) := ref_l0 s hs s.size 0 [] [] (by omega) (DI.zero s)
  have hl := dgo_len s (s.size + 1) 0 [] [] (DI.zero s) (by omega)
  generalize dgo s (s.size + 1) 0 [] [] = r at h1 h2 hl
  unfold monikerlaw4_TreeDraws.f
  refine Ev.bind h1 (Ev.bind h2 (Ev.bind (SameTree_is r.1 (by omega)) ?_))
  simp only [if_true, beq_self_eq_true]
  exact Ev.now _
end Go.Proofs.YtodldpdnhcafpaaDoor.Q

-- The tables of the kinds' names as the row's condition lays them
namespace Go.Proofs.YtodldpdnhcafpaaDoor.H
open Go.ChangeShapes Go.WideShapes Go.ChangeAt Go.RowKit Go.Proofs.YtodldpdnhcafpaaDoor.F Go.Proofs.YtodldpdnhcafpaaDoorW.PrintWords
set_option linter.unusedVariables false
set_option linter.unusedSimpArgs false
theorem gKinds : Tryd.prog.globalNamed "moniker/tree.kinds" = some 0 := by kernel_rfl
theorem gNames : Tryd.prog.globalNamed "moniker/monikerref4.names" = some 1 := by kernel_rfl
theorem tKinds : (Tryd.prog.globals[0]?).map (·.type) = some 87 := by kernel_rfl
theorem tNames : (Tryd.prog.globals[1]?).map (·.type) = some 87 := by kernel_rfl
theorem tgc9 : Tryd.prog.cellsOf 9 = 1 := by kernel_rfl
/-- The words of a laid datum. -/
def words (d : DataW Unit) : List (List UInt8) := match d with | .agg l => l.map (fun x => match x with | .lit (.string b) => b | _ => []) | _ => []
theorem words_kinds : words Rows.laid_moniker_tree_kinds = tabG0.map (·.data.toList) := by kernel_rfl
theorem words_names : words Rows.laid_moniker_monikerref4_names = tabG0.map (·.data.toList) := by kernel_rfl
theorem row_of {W : World} {g f : Nat} {nm : String} {cs : Array Value} {d : DataW Unit} {p : List MemPlace} (hg : Tryd.prog.globalNamed nm = some g) (hv : W.var? Tryd.prog nm = some cs)
    (hd : DataW.trod (fun _ => ()) Tryd.prog W 0 (fun _ => true) false f 87 cs.toList = some (d, p)) (hw : words d = tabG0.map (·.data.toList)) : Kd.string.C W (some ⟨g, 0, none⟩) 58 tabG0 := by
  obtain ⟨xs, m1, rfl, hx1, hlen, hn, hel⟩ := DataW.trod_array Tryd.underlying87 hd
  simp only [Prod.mk.injEq] at hx1
  obtain ⟨rfl, _⟩ := hx1
  refine Kd.C_of_reads (d := ByteArray.empty) ⟨tab_len, by decide, fun _ => ⟨_, rfl, fun j hj => ?_⟩⟩
  have e1 := hel j hj
  rw [tgc9, Nat.mul_one] at e1
  obtain ⟨y, hy⟩ : ∃ y, xs[j]? = some y := ⟨xs[j]'(by omega), List.getElem?_eq_getElem (by omega)⟩
  rw [hy] at e1
  obtain ⟨t, ht, rfl, _⟩ := DataW.trod_string Tryd.underlying9 e1
  have hc : cs.toList[j]? = some (.string t) := by
    have : ((cs.toList.drop j).take 1)[0]? = some (.string t) := by rw [ht]; rfl
    rw [List.getElem?_take_of_lt (by omega), List.getElem?_drop] at this
    simpa using this
  have hn2 : j < tabG0.length := by rw [tab_len]; exact hj
  have hw2 : (words (DataW.agg (xs.map (·.1))))[j]? = some t.data.toList := by
    unfold words
    rw [List.getElem?_map, List.getElem?_map, hy]
    rfl
  rw [hw, List.getElem?_map, List.getElem?_eq_getElem hn2] at hw2
  have hd2 : tabG0[j].data.toList = t.data.toList := Option.some.inj hw2
  have het : tabG0[j] = t := ByteArray.ext (Array.ext' hd2)
  rw [List.getD_eq_getElem?_getD, List.getElem?_eq_getElem hn2, Option.getD_some, het]
  have hcell := World.var?_cell hg hv j
  rw [Addr.add_mid, Nat.zero_add, hcell]
  simpa using hc
theorem sg_of_laid {W : World} (h : laidMetH Tryd.prog [("moniker/monikerref4.names", Rows.laid_moniker_monikerref4_names), ("moniker/tree.kinds", Rows.laid_moniker_tree_kinds)] W) : SG W := by
  rw [MakeChecks.laidMetH_plain _ _ _ (by kernel_rfl)] at h
  obtain ⟨ps, ⟨g1, t1, cs1, f1, p1, q1, hg1, ht1, hv1, hd1, hrest, _⟩, _, _⟩ := h
  obtain ⟨g0, t0, cs0, f0, p0, q0, hg0, ht0, hv0, hd0, _, _⟩ := hrest
  obtain rfl := Option.some.inj (gNames.symm.trans hg1)
  obtain rfl := Option.some.inj (tNames.symm.trans ht1)
  obtain rfl := Option.some.inj (gKinds.symm.trans hg0)
  obtain rfl := Option.some.inj (tKinds.symm.trans ht0)
  exact ⟨row_of gKinds hv0 hd0 words_kinds, row_of gNames hv1 hd1 words_names⟩
end Go.Proofs.YtodldpdnhcafpaaDoor.H

-- TreeDraws: the law's walk
namespace Go.Proofs.YtodldpdnhcafpaaDoor.L
open Go.RowKit Go.Proofs.YtodldpdnhcafpaaDoor.F Go.Proofs.YtodldpdnhcafpaaDoorW.PrintWords
set_option linter.unusedVariables false
theorem draws_walk (s : ByteArray) (w : World) (hs : s.size ≤ 140737488351232) (hsg : SG w) (hbk : s.size + 1 ≤ 1048576) :
    Calls Tryd.prog 3 #[.string s] w fun e w' => e = .returned (.bool true) ∧ Below w.heap.size w w' := by
  obtain ⟨k, hk⟩ := (Q.Draws_is s (by omega)).rounds
  exact monikerlaw4_TreeDraws.calls k s true w hk hsg
end Go.Proofs.YtodldpdnhcafpaaDoor.L


namespace Go.Proofs.YtodldpdnhcafpaaDoor.treeDraws
open Go.ChangeShapes Go.WideShapes Go.ChangeAt Go.RowKit Go.Proofs.YtodldpdnhcafpaaDoor
open Go.ChangeMaps (open_string shut_string)
set_option linter.unusedVariables false
theorem own : ownKnob Tryd.prog.godebug = none := by kernel_rfl
theorem laidOut : laidOutB Tryd.prog = true := by kernel_rfl
theorem door_met (os : Os) : laidMetH Tryd.prog [("moniker/monikerref4.names", Rows.laid_moniker_monikerref4_names), ("moniker/tree.kinds", Rows.laid_moniker_tree_kinds)] ((World.doorLaid Tryd.prog 20 os).forCall (fun _ _ => 0) ⟨#[], #[.string ByteArray.empty], []⟩).memory :=
  laidMetH_of_parts3 (fuel := 8) (laidMet_of_run' 8 (by kernel_rfl) (by kernel_rfl)) (by kernel_rfl) (by kernel_rfl)
set_option maxRecDepth 100000 in
theorem reads (os : Os) {H : Type} (enc : TypeId × Value → H) : (match DataW.whole enc Tryd.prog ((World.doorLaid Tryd.prog 20 os).forCall (fun _ _ => 0) ⟨#[], #[.string ByteArray.empty], []⟩).memory Tryd.f3.params.toList Rows.treeDrawsSpec.vars false #[.string ByteArray.empty].toList 8 with | some x => Rows.uptoSmall H (x.1 ++ x.2.1) | none => false) = true ∧ (Rows.OpenSpec.upto Rows.treeDrawsSpec).bare.sizedB enc Tryd.prog Tryd.f3 false ((World.doorLaid Tryd.prog 20 os).forCall (fun _ _ => 0) ⟨#[], #[.string ByteArray.empty], []⟩).memory #[.string ByteArray.empty] 8 = true :=
  ⟨by kernel_rfl, by kernel_rfl⟩
set_option maxRecDepth 100000 in
theorem lifted (os : Os) (started : os.Started) (H : Type) (enc : TypeId × Value → H) (F : Stop.Interp) :
    ReturnsInHanded {} Tryd.checked os 3 .any ((Rows.OpenSpec.upto Rows.treeDrawsSpec).preRow enc Tryd.prog Tryd.f3 Rows.treeDrawsUptoRow.domain false Rows.treeDrawsUptoRow.laid) (((Rows.OpenSpec.upto Rows.treeDrawsSpec).at F).post enc Tryd.prog Tryd.f3 false true false false) := by
  obtain ⟨hm, hxs⟩ := reads os enc
  obtain ⟨x, hx, hxk⟩ : ∃ x, DataW.whole enc Tryd.prog ((World.doorLaid Tryd.prog 20 os).forCall (fun _ _ => 0) ⟨#[], #[.string ByteArray.empty], []⟩).memory Tryd.f3.params.toList Rows.treeDrawsSpec.vars false #[.string ByteArray.empty].toList 8 = some x ∧ Rows.uptoSmall H (x.1 ++ x.2.1) = true := by
    generalize DataW.whole enc Tryd.prog ((World.doorLaid Tryd.prog 20 os).forCall (fun _ _ => 0) ⟨#[], #[.string ByteArray.empty], []⟩).memory Tryd.f3.params.toList Rows.treeDrawsSpec.vars false #[.string ByteArray.empty].toList 8 = y at hm
    cases y with
    | none => cases hm
    | some x => exact ⟨x, rfl, hm⟩
  refine returnsInHanded_of_row (C := Tryd.checked) (s := Rows.OpenSpec.upto Rows.treeDrawsSpec) own started (by kernel_rfl) Tryd.func3
    (witness_row_at (enc := enc) (C := Tryd.checked) false (World.doorLaid Tryd.prog 20 os) #[.string ByteArray.empty] rfl (by kernel_rfl) (by kernel_rfl) (by kernel_rfl)
      (OpenSpec.preRow_of_cond 8 hx (by rfl) (fun k hk => by cases hk; exact hxk) hxs (door_met os))) ?_
  intro W base args ds gs before hval0 hW hcnd hk0 hsz0 hLaid _ _
  replace hk0 := hk0 _ rfl
  have hsz : (DataW.weightsEach Tryd.prog (Tryd.f3.params.toList ++ Rows.treeDrawsSpec.plain.varTypes Tryd.prog) (ds ++ gs)).all (· ≤ reachBytes) = true := hsz0
  have hval : ∀ (j : Nat) t v, Tryd.f3.params[j]? = some t → args[j]? = some v → Value.okWide Tryd.prog W .any base t v := hval0
  have hW' := hW
  obtain ⟨p, q, hA0, hV, rfl, hfz, hnd⟩ := hW
  have hA : DataW.TrodAll enc Tryd.prog W 0 (fun _ => true) true Tryd.f3.params.toList args.toList ds p := hA0
  rw [Tryd.params3] at hA hval hsz
  obtain ⟨v0, vs0, d0, ds0, p0, q0, hargs, rfl, rfl, h0, r0⟩ := trodAll_cons hA
  obtain ⟨rfl, rfl, rfl⟩ := trodAll_nil r0
  obtain rfl : args = #[v0] := by cases args; simp_all
  obtain ⟨rfl, rfl⟩ := trodVars_none hV
  have hbulk : Rows.uptoBulkAll ([d0] ++ []) ≤ 1048576 := of_decide_eq_true hk0
  simp only [List.append_nil, Rows.uptoBulkAll, Nat.add_zero] at hbulk
  obtain ⟨a0, rfl, rfl, rfl, y0⟩ := open_string Tryd.underlying9 (hval 0 9 v0 rfl rfl) h0
  have w0 : a0.size ≤ 140737488351232 := by
    have z := sized_string hsz (j := 0) (t := 9) rfl rfl
    rw [Array.length_toList] at z
    exact z
  have hm0 : a0.size + 1 ≤ Rows.uptoBulk (DataW.lit (H := H) (.string a0.data.toList)) := by simp only [Rows.uptoBulk]; rw [Array.length_toList]; exact Nat.le_refl _
  clear hA0 hval0 hsz0 hsz
  refine (Go.Proofs.YtodldpdnhcafpaaDoor.L.draws_walk a0 W w0 (Go.Proofs.YtodldpdnhcafpaaDoor.H.sg_of_laid hLaid) (Nat.le_trans hm0 hbulk)).mono fun e W' ⟨he, bel⟩ => ?_
  subst he
  exact ⟨_, rfl, _, _, _, [], _, [], hW', trodAll_mk1 (shut_bool Tryd.underlying4 _), (trodAll_cons_mk (shut_string Tryd.underlying9 y0) trodAll_mk0), rfl, bel.frame _, fun h => by cases h⟩
theorem over : Rows.treeDrawsUptoRow.holds Tryd.pinned (Rows.OpenSpec.upto Rows.treeDrawsSpec) :=
  OpenClaim.holds_of_cond 3 Tryd.f3 rfl rfl rfl rfl rfl rfl rfl ⟨rfl, rfl, rfl, rfl, rfl⟩ rfl rfl rfl rfl rfl (by kernel_rfl) Tryd.func3 (by kernel_rfl)
    (of_decide_eq_true (by kernel_rfl)) (by unfold Func.isWrapper; first | (rw [if_pos (by decide +kernel)]; kernel_rfl) | (rw [if_neg (by decide +kernel)]; exact ⟨rfl, rfl⟩))
    (fun os started H enc _ F => by rw [OpenClaim.pre_eq_preRow]; exact lifted os started H enc F)
theorem plain (f : FuncId) (fn : Func) (hf : Tryd.pinned.checked.prog.funcNamed "moniker/monikerlaw4.TreeDraws" = some f) (hfn : Tryd.pinned.checked.prog.funcs[f]? = some fn) :
    false = Tryd.pinned.checked.prog.looks [] ∧ ∀ (j : Nat) t, fn.params[j]? = some t → Tryd.pinned.checked.prog.wantsStandIn t = false := by
  obtain rfl : f = 3 := Option.some.inj ((show Tryd.prog.funcNamed "moniker/monikerlaw4.TreeDraws" = some 3 by kernel_rfl).symm.trans hf) |>.symm
  obtain rfl : fn = Tryd.f3 := (Option.some.inj (Tryd.func3.symm.trans hfn)).symm
  refine ⟨by kernel_rfl, fun j t ht => ?_⟩
  rw [Tryd.params3] at ht
  have hm : t ∈ [9] := by simpa using Array.mem_of_getElem? ht
  have hall : ([9].all fun u => !Tryd.prog.wantsStandIn u) = true := by kernel_rfl
  exact (show Tryd.prog.wantsStandIn t = false by simpa using List.all_eq_true.1 hall t hm)
set_option maxRecDepth 100000 in
theorem proved : Rows.TreeDrawsUptoCardSaid :=
  Claim7.holds_tied_plain_at .later [] _ _ _ _ over (fun _ h => by cases h) (by kernel_rfl) (fun _ h => by cases h) treeDrawsUpto_row_tie rfl ⟨rfl, rfl⟩ (by kernel_rfl) rfl plain (by kernel_rfl)
#print axioms proved
end Go.Proofs.YtodldpdnhcafpaaDoor.treeDraws
namespace Go.Proofs.YtodldpdnhcafpaaDoor
/-- The card, under a short name, for the claim. -/
theorem treeDraws_holds : Rows.TreeDrawsUptoCardSaid := treeDraws.proved
end Go.Proofs.YtodldpdnhcafpaaDoor
