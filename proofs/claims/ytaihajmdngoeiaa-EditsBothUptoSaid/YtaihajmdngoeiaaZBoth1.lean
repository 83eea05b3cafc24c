/- The law EditsBoth of package monikerlaw holds of the given program: called with any arguments that can be read as data, together of bulk at most 1048576, it returns true, and its arguments read behind the call as before. Conditions: those of the given row '..Upto', no others. -/
import Derived.Test.YtaihajmdngoeiaaZBoth0
import Derived.Test.YtaihajmdngoeiaaWMore
import Derived.SizedLaws
import Derived.ChangeSlices
import Derived.Deep.Slices
import Derived.Test.YtaihajmdngoeiaaRows
import Derived.JoinedCond
import Derived.ChangeArms
import Derived.WalkKit
import Derived.ProofKit
import Derived.OpenShut
import Derived.ShutString
import Derived.ChangeOld
import Derived.Below
-- A text of this session's own program (wip/myprint.sh over a changed print tool): functions and their walks
namespace Go.Proofs.Ytaihajmdngoeiaa.F
open Go.RowKit Go.Proofs.YtaihajmdngoeiaaW.PrintWords Go.Proofs.YtaihajmdngoeiaaW.PrintLast Go.Proofs.YtaihajmdngoeiaaW.PrintMore
attribute [local go_sem] max2_int min2_int max_two min_two max_three min_three max_four min_four   -- for this text's walks alone
set_option linter.unusedVariables false
set_option linter.unusedSimpArgs false

/-! ### monikerlaw1_EditsBoth: function 11 -/
mutual
def monikerlaw1_EditsBoth.j0 : Nat → ByteArray → List (S42) → List (S42) → List (S42) → Int → List (S42) → Int → Bool → Option (Bool)
  | 0, _, _, _, _, _, _, _, _ => none
  | k + 1, x0, x1, x2, x7, x8, x9, x10, x11 => if x11 = true then (if x8 = x10 then ((monikerplain_SameEdits.f k x7 x9).bind fun t436 => (monikerlaw1_EditsBoth.j1 k x0 x1 x2 x7 x8 (!t436))) else (monikerlaw1_EditsBoth.j1 k x0 x1 x2 x7 x8 true)) else (if x8 = 0 then (some false) else (if x10 = 0 then (some false) else (if (x7.length : Int) = 0 then (some ((x9.length : Int) == 0)) else (some false))))
def monikerlaw1_EditsBoth.j1 : Nat → ByteArray → List (S42) → List (S42) → List (S42) → Int → Bool → Option (Bool)
  | 0, _, _, _, _, _, _ => none
  | k + 1, x0, x1, x2, x7, x8, x74 => if x74 = true then (some false) else ((edits_Merge.f k (x0.size : Int) x1 ([] : List (S42))).bind fun bt437 => (if bt437.2 = 0 then ((monikerplain_SameEdits.f k bt437.1 x1).bind fun t441 => (monikerlaw1_EditsBoth.j2 k x0 x1 x2 x7 x8 (!t441))) else (monikerlaw1_EditsBoth.j2 k x0 x1 x2 x7 x8 true)))
def monikerlaw1_EditsBoth.j2 : Nat → ByteArray → List (S42) → List (S42) → List (S42) → Int → Bool → Option (Bool)
  | 0, _, _, _, _, _, _ => none
  | k + 1, x0, x1, x2, x7, x8, x89 => if x89 = true then (some false) else (if x8 = 0 then ((edits_Apply.f k x0 x7).bind fun bt442 => ((edits_Apply.f k x0 x1).bind fun bt444 => (if bt442.2 = 0 then (monikerlaw1_EditsBoth.j3 k x1 x2 bt442.1 bt444.1 (bt444.2 != 0)) else (monikerlaw1_EditsBoth.j3 k x1 x2 bt442.1 bt444.1 true)))) else (some ((x7.length : Int) == 0)))
def monikerlaw1_EditsBoth.j3 : Nat → List (S42) → List (S42) → ByteArray → ByteArray → Bool → Option (Bool)
  | 0, _, _, _, _, _ => none
  | k + 1, x1, x2, x14, x15, x112 => if x112 = true then (some false) else (monikerlaw1_EditsBoth.l0 k x1 x2 x14 x15 (wrap64 ((x2.length : Int) - 1)))
def monikerlaw1_EditsBoth.l0 : Nat → List (S42) → List (S42) → ByteArray → ByteArray → Int → Option (Bool)
  | 0, _, _, _, _, _ => none
  | k + 1, x1, x2, x14, x15, x17 => if x17 ≥ 0 then (if 0 ≤ x17 then (if x17 < (x2.length : Int) then ((edits_Shift.f k x1 ((rd_T42 x2 x17).f0)).bind fun bt447 => (if bt447.2 = true then ((edits_Apply.f k x15 (([(⟨bt447.1, wrap64 ((wrap64 (bt447.1 + ((rd_T42 x2 x17).f1))) - ((rd_T42 x2 x17).f0)), (rd_T42 x2 x17).f2⟩ : S42)] : List (S42)))).bind fun bt455 => (if bt455.2 = 0 then (monikerlaw1_EditsBoth.l0 k x1 x2 x14 bt455.1 (wrap64 (x17 - 1))) else (some false))) else (some false))) else (none)) else (none)) else (some (x15.toList == x14.toList))
end
def monikerlaw1_EditsBoth.f (k : Nat) (a0 : ByteArray) (l1 : List (S42)) (l2 : List (S42)) : Option (Bool) := (edits_Merge.f k (a0.size : Int) l1 l2).bind fun bt426 => ((edits_Merge.f k (a0.size : Int) l2 l1).bind fun bt430 => ((edits_Valid.f k (a0.size : Int) l1).bind fun t434 => (if t434 = 0 then ((edits_Valid.f k (a0.size : Int) l2).bind fun t435 => (monikerlaw1_EditsBoth.j0 k a0 l1 l2 bt426.1 bt426.2 bt430.1 bt430.2 (t435 == 0))) else (monikerlaw1_EditsBoth.j0 k a0 l1 l2 bt426.1 bt426.2 bt430.1 bt430.2 false))))
def monikerlaw1_EditsBoth.T23 : Bool × List (List Nat × List Nat) := (true, [([], []), ([], []), ([], []), ([], []), ([], []), ([3, 4], [3, 4]), ([5], [5]), ([6], [6]), ([2, 7], [2, 7]), ([], []), ([], []), ([9, 10], [9, 10]), ([11], [11]), ([12], [12]), ([8, 13], [8, 13]), ([], []), ([], []), ([15, 16], [15, 16]), ([17], [17]), ([18], [18]), ([1, 14, 19], [1, 14, 19]), ([20], [20]), ([0, 21], [0, 21]), ([22], [22]), ([23], [23]), ([23], [23]), ([24, 22, 0, 1, 2, 3, 4, 5, 6, 7, 8, 9, 10, 11, 12, 13, 14, 15, 16, 17, 18, 19, 20, 21, 22, 23, 24], [0, 24]), ([25, 26, 0, 1, 2, 3, 4, 5, 6, 7, 8, 9, 10, 11, 12, 13, 14, 15, 16, 17, 18, 19, 20, 21, 22, 23, 24, 25, 26], [25])])
def monikerlaw1_EditsBoth.B23 : List Nat := [0, 0, 0, 0, 0, 24, 56, 120, 252, 0, 0, 1536, 3584, 7680, 16380, 0, 0, 98304, 229376, 491520, 1048574, 2097150, 4194303, 8388607, 16777215, 16777215, 33554431, 134217727]
theorem monikerlaw1_EditsBoth.tab23 : rtab .any (opsOf Try.f11 23) = monikerlaw1_EditsBoth.T23 := by kernel_rfl
theorem monikerlaw1_EditsBoth.bits23 : waitsOk monikerlaw1_EditsBoth.T23.2 monikerlaw1_EditsBoth.B23 = true := by kernel_rfl
set_option maxHeartbeats 8000000 in
set_option maxRecDepth 100000 in
theorem monikerlaw1_EditsBoth.calls (k : Nat) (a0 : ByteArray) (A1 : Option Addr) (c1 : Nat) (l1 : List (S42)) (A2 : Option Addr) (c2 : Nat) (l2 : List (S42)) (r : Bool) (w : World) (hr1 : Kd.C k42 w A1 l1.length l1) (hc1 : l1.length ≤ c1) (hr2 : Kd.C k42 w A2 l2.length l2) (hc2 : l2.length ≤ c2) (h : monikerlaw1_EditsBoth.f k a0 l1 l2 = some r) :
    Calls Try.prog 11 #[.string a0, .slice A1 l1.length c1, .slice A2 l2.length c2] w fun e w' => e = .returned (.bool r) ∧ Below w.heap.size w w' := by
  have hu42 := Try.underlying42
  have HR1 := Aside0.mk hr1
  have HC1 := Aside0.mk hc1
  clear hr1 hc1
  have HR2 := Aside0.mk hr2
  have HC2 := Aside0.mk hc2
  clear hr2 hc2
  have HB := Aside0.mk (Below.refl w.heap.size w)
  have H : ((edits_Merge.f k (a0.size : Int) l1 l2).bind fun bt426 => ((edits_Merge.f k (a0.size : Int) l2 l1).bind fun bt430 => ((edits_Valid.f k (a0.size : Int) l1).bind fun t434 => (if t434 = 0 then ((edits_Valid.f k (a0.size : Int) l2).bind fun t435 => (monikerlaw1_EditsBoth.j0 k a0 l1 l2 bt426.1 bt426.2 bt430.1 bt430.2 (t435 == 0))) else (monikerlaw1_EditsBoth.j0 k a0 l1 l2 bt426.1 bt426.2 bt430.1 bt430.2 false))))) = some r := h
  clear h
  replace H := Option.bind_eq_some_iff.mp H
  obtain ⟨⟨t426, t427⟩, A40, H⟩ := H
  replace H : ((edits_Merge.f k (a0.size : Int) l2 l1).bind fun bt430 => ((edits_Valid.f k (a0.size : Int) l1).bind fun t434 => (if t434 = 0 then ((edits_Valid.f k (a0.size : Int) l2).bind fun t435 => (monikerlaw1_EditsBoth.j0 k a0 l1 l2 t426 t427 bt430.1 bt430.2 (t435 == 0))) else (monikerlaw1_EditsBoth.j0 k a0 l1 l2 t426 t427 bt430.1 bt430.2 false)))) = some r := H
  have A4 := Aside0.mk A40
  clear A40
  replace H := Option.bind_eq_some_iff.mp H
  obtain ⟨⟨t430, t431⟩, A50, H⟩ := H
  replace H : ((edits_Valid.f k (a0.size : Int) l1).bind fun t434 => (if t434 = 0 then ((edits_Valid.f k (a0.size : Int) l2).bind fun t435 => (monikerlaw1_EditsBoth.j0 k a0 l1 l2 t426 t427 t430 t431 (t435 == 0))) else (monikerlaw1_EditsBoth.j0 k a0 l1 l2 t426 t427 t430 t431 false))) = some r := H
  have A5 := Aside0.mk A50
  clear A50
  have HC6 := Aside0.mk H
  clear H
  go_enter Try.func11, Try.ntmps11
  go_upto_region 3 with (first | ((with_reducible refine gate_callee (f := 28) rfl ?_); refine goesL_ (some 25) rfl rfl Try.func28 (by kernel_rfl) rfl #[.int .i64 (a0.size : Int), .slice A1 l1.length c1, .slice A2 l2.length c2] rfl (by (try simp only [List.map_toArray, List.map_cons, List.map_nil]); first | done | rfl | (simp only [List.length_drop, List.length_take]; rfl)) ?_; (with_reducible refine (edits_Merge.calls k (a0.size : Int) _ _ l1 _ _ l2 t426 t427 _ ?side1 ?side2 ?side3 ?side4 A4.out).mono ?_); (case side1 => repeat (first | exact HR1.out | (with_reducible refine Kd.C_alloc ?_ _) | (with_reducible refine Kd.C_drewN ?_ _) | (with_reducible refine Kd.C_drew ?_))); (case side2 => exact HC1.out); (case side3 => repeat (first | exact HR2.out | (with_reducible refine Kd.C_alloc ?_ _) | (with_reducible refine Kd.C_drewN ?_ _) | (with_reducible refine Kd.C_drew ?_))); (case side4 => exact HC2.out); rintro e w7 ⟨v428, rfl, ho0, hb⟩; refine ⟨_, rfl, ?_⟩; have n0_ := Aside0.mk (Kd.R_lower ho0 (below_size (by repeat (first | (with_reducible first | exact HB.out | apply below_alloc | apply pw_below_drewN | apply below_drew1) | exact HB.out)))); have n1_ := Aside0.mk (below_step (by repeat (first | (with_reducible first | exact HB.out | apply below_alloc | apply pw_below_drewN | apply below_drew1) | exact HB.out)) hb); clear HB; have HO429 := n0_; have HB := n1_; clear n0_ n1_; (try clear hb); (try clear hb2); (try clear hk); (try clear hi); (try clear ho0)) | ((with_reducible refine gate_callee (f := 28) rfl ?_); refine goesL_ (some 33) rfl rfl Try.func28 (by kernel_rfl) rfl #[.int .i64 (a0.size : Int), .slice A2 l2.length c2, .slice A1 l1.length c1] rfl (by (try simp only [List.map_toArray, List.map_cons, List.map_nil]); first | done | rfl | (simp only [List.length_drop, List.length_take]; rfl)) ?_; (with_reducible refine (edits_Merge.calls k (a0.size : Int) _ _ l2 _ _ l1 t430 t431 _ ?side1 ?side2 ?side3 ?side4 A5.out).mono ?_); (case side1 => repeat (first | exact (Kd.C_below HR2.out HB.out) | (with_reducible refine Kd.C_alloc ?_ _) | (with_reducible refine Kd.C_drewN ?_ _) | (with_reducible refine Kd.C_drew ?_))); (case side2 => exact HC2.out); (case side3 => repeat (first | exact (Kd.C_below HR1.out HB.out) | (with_reducible refine Kd.C_alloc ?_ _) | (with_reducible refine Kd.C_drewN ?_ _) | (with_reducible refine Kd.C_drew ?_))); (case side4 => exact HC1.out); rintro e w8 ⟨v432, rfl, ho0, hb⟩; refine ⟨_, rfl, ?_⟩; have n0_ := Aside0.mk (Kd.R_elder' (by (with_reducible repeat (first | apply Kd.R_alloc | apply Kd.R_drewN | apply Kd.R_drew)); exact HO429.out) (Kd.R_base ho0) hb); have n1_ := Aside0.mk (Kd.R_lower (Kd.R_new' ho0 (Kd.R_lt (by (with_reducible repeat (first | apply Kd.R_alloc | apply Kd.R_drewN | apply Kd.R_drew)); exact HO429.out))) (below_size (by repeat (first | (with_reducible first | exact HB.out | apply below_alloc | apply pw_below_drewN | apply below_drew1) | exact HB.out)))); have n2_ := Aside0.mk (below_step (by repeat (first | (with_reducible first | exact HB.out | apply below_alloc | apply pw_below_drewN | apply below_drew1) | exact HB.out)) hb); clear HO429; clear HB; have HO429 := n0_; have HO433 := n1_; have HB := n2_; clear n0_ n1_ n2_; (try clear hb); (try clear hb2); (try clear hk); (try clear hi); (try clear ho0)))
  (try simp only [Act.put, List.setIfInBounds_toArray, List.set_cons_zero, List.set_cons_succ])
  go_cut [11] (fun v11 wc => ∃ (kq : Nat) (x11_5 : Bool), v11 = .bool x11_5 ∧ Aside0 (monikerlaw1_EditsBoth.j0 kq a0 l1 l2 t426 t427 t430 t431 x11_5 = some r) ∧ Aside0 (kq ≤ k) ∧ Aside0 (Kd.R k42 42 wc w.heap.size (fun k_ => some k_ ≠ (v432 : Value).ownBlock) v428 t426) ∧ Aside0 (Kd.R k42 42 wc w.heap.size (fun k_ => some k_ ≠ (v428 : Value).ownBlock) v432 t430) ∧ Aside0 (Below w.heap.size w wc))
  case first =>
    have H := HC6.out
    clear HC6
    replace H := Option.bind_eq_some_iff.mp H
    obtain ⟨t434, A90, H⟩ := H
    replace H : (if t434 = 0 then ((edits_Valid.f k (a0.size : Int) l2).bind fun t435 => (monikerlaw1_EditsBoth.j0 k a0 l1 l2 t426 t427 t430 t431 (t435 == 0))) else (monikerlaw1_EditsBoth.j0 k a0 l1 l2 t426 t427 t430 t431 false)) = some r := H
    have A9 := Aside0.mk A90
    clear A90
    by_cases c10 : t434 = 0
    · rw [if_pos c10] at H
      have c10b0 : (t434 == 0) = true := beq_iff_eq.mpr c10
      have c10b1 : (t434 != 0) = false := bne_eq_false_iff_eq.mpr c10
      clear c10
      (first | rw [c10b0] | (simp only [i64_w, i32_w]; rw [c10b0]) | skip)
      replace H := Option.bind_eq_some_iff.mp H
      obtain ⟨t435, A110, H⟩ := H
      replace H : (monikerlaw1_EditsBoth.j0 k a0 l1 l2 t426 t427 t430 t431 (t435 == 0)) = some r := H
      have A11 := Aside0.mk A110
      clear A110
      have H' := Aside0.mk H
      clear H
      go_wp2_with (first | ((with_reducible refine gate_callee (f := 16) rfl ?_); refine goesL_ (some 39) rfl rfl Try.func16 (by kernel_rfl) rfl #[.int .i64 (a0.size : Int), .slice A1 l1.length c1] rfl (by (try simp only [List.map_toArray, List.map_cons, List.map_nil]); first | done | rfl | (simp only [List.length_drop, List.length_take]; rfl)) ?_; (with_reducible refine (edits_Valid.calls k (a0.size : Int) _ _ l1 t434 _ ?side1 ?side2 A9.out).mono ?_); (case side1 => repeat (first | exact (Kd.C_below HR1.out HB.out) | (with_reducible refine Kd.C_alloc ?_ _) | (with_reducible refine Kd.C_drewN ?_ _) | (with_reducible refine Kd.C_drew ?_))); (case side2 => exact HC1.out); rintro e w12 ⟨rfl, hb⟩; refine ⟨_, rfl, ?_⟩; have n0_ := Aside0.mk (Kd.R_below (by (with_reducible repeat (first | apply Kd.R_alloc | apply Kd.R_drewN | apply Kd.R_drew)); exact HO429.out) hb); have n1_ := Aside0.mk (Kd.R_below (by (with_reducible repeat (first | apply Kd.R_alloc | apply Kd.R_drewN | apply Kd.R_drew)); exact HO433.out) hb); have n2_ := Aside0.mk (below_step (by repeat (first | (with_reducible first | exact HB.out | apply below_alloc | apply pw_below_drewN | apply below_drew1) | exact HB.out)) hb); clear HO429; clear HO433; clear HB; have HO429 := n0_; have HO433 := n1_; have HB := n2_; clear n0_ n1_ n2_; (try clear hb); (try clear hb2); (try clear hk); (try clear hi)) | (go_at_call 16; (with_reducible refine (edits_Valid.calls k (a0.size : Int) _ _ l2 t435 _ ?side1 ?side2 A11.out).mono ?_); (case side1 => repeat (first | exact (Kd.C_below HR2.out HB.out) | (with_reducible refine Kd.C_alloc ?_ _) | (with_reducible refine Kd.C_drewN ?_ _) | (with_reducible refine Kd.C_drew ?_))); (case side2 => exact HC2.out); rintro e w13 ⟨rfl, hb⟩; have n0_ := Aside0.mk (Kd.R_below (by (with_reducible repeat (first | apply Kd.R_alloc | apply Kd.R_drewN | apply Kd.R_drew)); exact HO429.out) hb); have n1_ := Aside0.mk (Kd.R_below (by (with_reducible repeat (first | apply Kd.R_alloc | apply Kd.R_drewN | apply Kd.R_drew)); exact HO433.out) hb); have n2_ := Aside0.mk (below_step (by repeat (first | (with_reducible first | exact HB.out | apply below_alloc | apply pw_below_drewN | apply below_drew1) | exact HB.out)) hb); clear HO429; clear HO433; clear HB; have HO429 := n0_; have HO433 := n1_; have HB := n2_; clear n0_ n1_ n2_; (try clear hb); (try clear hb2); (try clear hk); (try clear hi)))
      go_meet
      case rel => exact ⟨_, ((t435 == 0)), (by first | rfl | (simp; done) | (simp [*]; done)), H', ⟨by first | omega | exact Nat.le_refl _⟩, ⟨by (with_reducible repeat (first | apply Kd.R_alloc | apply Kd.R_drewN | apply Kd.R_drew)); exact Kd.R_mono HO429.out (fun _ hk => hk.2)⟩, ⟨by (with_reducible repeat (first | apply Kd.R_alloc | apply Kd.R_drewN | apply Kd.R_drew)); exact Kd.R_mono HO433.out (fun _ hk => hk.2)⟩, ⟨by repeat (first | (with_reducible first | exact HB.out | apply below_alloc | apply pw_below_drewN | apply below_drew1) | exact HB.out)⟩⟩
    · rw [if_neg c10] at H
      have c10b0 : (t434 == 0) = false := beq_eq_false_iff_ne.mpr c10
      have c10b1 : (t434 != 0) = true := bne_iff_ne.mpr c10
      (first | rw [c10b0] | (simp only [i64_w, i32_w]; rw [c10b0]) | skip)
      have H' := Aside0.mk H
      clear H
      go_wp2_with (first | ((with_reducible refine gate_callee (f := 16) rfl ?_); refine goesL_ (some 39) rfl rfl Try.func16 (by kernel_rfl) rfl #[.int .i64 (a0.size : Int), .slice A1 l1.length c1] rfl (by (try simp only [List.map_toArray, List.map_cons, List.map_nil]); first | done | rfl | (simp only [List.length_drop, List.length_take]; rfl)) ?_; (with_reducible refine (edits_Valid.calls k (a0.size : Int) _ _ l1 t434 _ ?side1 ?side2 A9.out).mono ?_); (case side1 => repeat (first | exact (Kd.C_below HR1.out HB.out) | (with_reducible refine Kd.C_alloc ?_ _) | (with_reducible refine Kd.C_drewN ?_ _) | (with_reducible refine Kd.C_drew ?_))); (case side2 => exact HC1.out); rintro e w14 ⟨rfl, hb⟩; refine ⟨_, rfl, ?_⟩; have n0_ := Aside0.mk (Kd.R_below (by (with_reducible repeat (first | apply Kd.R_alloc | apply Kd.R_drewN | apply Kd.R_drew)); exact HO429.out) hb); have n1_ := Aside0.mk (Kd.R_below (by (with_reducible repeat (first | apply Kd.R_alloc | apply Kd.R_drewN | apply Kd.R_drew)); exact HO433.out) hb); have n2_ := Aside0.mk (below_step (by repeat (first | (with_reducible first | exact HB.out | apply below_alloc | apply pw_below_drewN | apply below_drew1) | exact HB.out)) hb); clear HO429; clear HO433; clear HB; have HO429 := n0_; have HO433 := n1_; have HB := n2_; clear n0_ n1_ n2_; (try clear hb); (try clear hb2); (try clear hk); (try clear hi)))
      go_meet
      case rel => exact ⟨_, (false), (by first | rfl | (simp; done) | (simp [*]; done)), H', ⟨by first | omega | exact Nat.le_refl _⟩, ⟨by (with_reducible repeat (first | apply Kd.R_alloc | apply Kd.R_drewN | apply Kd.R_drew)); exact Kd.R_mono HO429.out (fun _ hk => hk.2)⟩, ⟨by (with_reducible repeat (first | apply Kd.R_alloc | apply Kd.R_drewN | apply Kd.R_drew)); exact Kd.R_mono HO433.out (fun _ hk => hk.2)⟩, ⟨by repeat (first | (with_reducible first | exact HB.out | apply below_alloc | apply pw_below_drewN | apply below_drew1) | exact HB.out)⟩⟩
  case rest =>
    clear HC6
    try clear c1
    try clear c2
    try clear p2
    try clear c10
    try clear c10b0
    try clear c10b1
    try clear c11
    obtain ⟨kq, x11_5, rfl, HA, HJ5, HO_7, HO_9, HB⟩ := hcut
    cases kq with
    | zero => exact absurd HA.out (by simp [monikerlaw1_EditsBoth.j0])
    | succ kj5 =>
      have H := HA.out
      clear HA
      simp only [monikerlaw1_EditsBoth.j0] at H
      by_cases c15 : x11_5 = true
      · subst c15
        have H1 : (if t427 = t431 then ((monikerplain_SameEdits.f kj5 t426 t430).bind fun t436 => (monikerlaw1_EditsBoth.j1 kj5 a0 l1 l2 t426 t427 (!t436))) else (monikerlaw1_EditsBoth.j1 kj5 a0 l1 l2 t426 t427 true)) = some r := by rw [if_pos rfl] at H; exact H
        clear H
        have H := H1
        clear H1
        have HC16 := Aside0.mk H
        clear H
        go_upto_region 6 with (fail)
        go_cut [74] (fun v74 wc => ∃ (kq : Nat) (x74_15 : Bool), v74 = .bool x74_15 ∧ Aside0 (monikerlaw1_EditsBoth.j1 kq a0 l1 l2 t426 t427 x74_15 = some r) ∧ Aside0 (kq ≤ kj5) ∧ Aside0 (Kd.R k42 42 wc w.heap.size (fun _ => True) v428 t426) ∧ Aside0 (Below w.heap.size w wc))
        case first =>
          have H := HC16.out
          clear HC16
          by_cases c17 : t427 = t431
          · rw [if_pos c17] at H
            have c17b0 : (t427 == t431) = true := beq_iff_eq.mpr c17
            have c17b1 : (t427 != t431) = false := bne_eq_false_iff_eq.mpr c17
            clear c17
            (first | rw [c17b0] | (simp only [i64_w, i32_w]; rw [c17b0]) | skip)
            replace H := Option.bind_eq_some_iff.mp H
            obtain ⟨t436, A180, H⟩ := H
            replace H : (monikerlaw1_EditsBoth.j1 kj5 a0 l1 l2 t426 t427 (!t436)) = some r := H
            have A18 := Aside0.mk A180
            clear A180
            have H' := Aside0.mk H
            clear H
            obtain ⟨Ao19, co19, eo19⟩ := Kd.R_slice HO_7.out
            subst eo19
            obtain ⟨Ao20, co20, eo20⟩ := Kd.R_slice HO_9.out
            subst eo20
            go_wp2_with (first | (go_at_call 21; (with_reducible refine (monikerplain_SameEdits.calls kj5 _ _ t426 _ _ t430 t436 _ ?side1 ?side2 ?side3 ?side4 A18.out).mono ?_); (case side1 => repeat (first | exact (Kd.R_reads' HO_7.out).2.2 | (with_reducible refine Kd.C_alloc ?_ _) | (with_reducible refine Kd.C_drewN ?_ _) | (with_reducible refine Kd.C_drew ?_))); (case side2 => exact (Kd.R_reads' HO_7.out).2.1); (case side3 => repeat (first | exact (Kd.R_reads' HO_9.out).2.2 | (with_reducible refine Kd.C_alloc ?_ _) | (with_reducible refine Kd.C_drewN ?_ _) | (with_reducible refine Kd.C_drew ?_))); (case side4 => exact (Kd.R_reads' HO_9.out).2.1); rintro e w' ⟨rfl, ⟨nd, rfl⟩⟩))
            go_meet
            case rel => exact ⟨_, (!t436), (by first | rfl | (simp; done) | (simp [*]; done)), H', ⟨by have := HJ5.out; first | omega | exact Nat.le_refl _⟩, ⟨by (with_reducible repeat (first | apply Kd.R_alloc | apply Kd.R_drewN | apply Kd.R_drew)); exact Kd.R_mono HO_7.out (fun _ hk => trivial)⟩, ⟨by repeat (first | (with_reducible first | exact HB.out | apply below_alloc | apply pw_below_drewN | apply below_drew1) | exact HB.out)⟩⟩
          · rw [if_neg c17] at H
            have c17b0 : (t427 == t431) = false := beq_eq_false_iff_ne.mpr c17
            have c17b1 : (t427 != t431) = true := bne_iff_ne.mpr c17
            (first | rw [c17b0] | (simp only [i64_w, i32_w]; rw [c17b0]) | skip)
            have H' := Aside0.mk H
            clear H
            go_wp2
            go_meet
            case rel => exact ⟨_, (true), (by first | rfl | (simp; done) | (simp [*]; done)), H', ⟨by have := HJ5.out; first | omega | exact Nat.le_refl _⟩, ⟨by (with_reducible repeat (first | apply Kd.R_alloc | apply Kd.R_drewN | apply Kd.R_drew)); exact Kd.R_mono HO_7.out (fun _ hk => trivial)⟩, ⟨by repeat (first | (with_reducible first | exact HB.out | apply below_alloc | apply pw_below_drewN | apply below_drew1) | exact HB.out)⟩⟩
        case rest =>
          clear HC16
          try clear c1
          try clear c2
          try clear p2
          try clear c10
          try clear c10b0
          try clear c10b1
          try clear c11
          try clear c15
          try clear c16
          try clear c17
          try clear c17b0
          try clear c17b1
          try clear p2
          obtain ⟨kq, x74_15, rfl, HA, HJ15, HO_7, HB⟩ := hcut
          cases kq with
          | zero => exact absurd HA.out (by simp [monikerlaw1_EditsBoth.j1])
          | succ kj15 =>
            have H := HA.out
            clear HA
            simp only [monikerlaw1_EditsBoth.j1] at H
            by_cases c21 : x74_15 = true
            · subst c21
              have H1 : (some false) = some r := by rw [if_pos rfl] at H; exact H
              clear H
              have H := H1
              clear H1
              obtain rfl := Option.some.inj H
              go_wp2
              go_ret
              exact ⟨by first | rfl | (simp [errW_none, errW_some] <;> rfl) | (simp [*, errW_none, errW_some] <;> rfl), by repeat (first | (with_reducible first | exact HB.out | apply below_alloc | apply pw_below_drewN | apply below_drew1) | exact HB.out)⟩
            · replace c21 := Bool.eq_false_iff.mpr c21
              subst c21
              have H1 : ((edits_Merge.f kj15 (a0.size : Int) l1 ([] : List (S42))).bind fun bt437 => (if bt437.2 = 0 then ((monikerplain_SameEdits.f kj15 bt437.1 l1).bind fun t441 => (monikerlaw1_EditsBoth.j2 kj15 a0 l1 l2 t426 t427 (!t441))) else (monikerlaw1_EditsBoth.j2 kj15 a0 l1 l2 t426 t427 true))) = some r := by rw [if_neg (show ¬ (false = true) by decide)] at H; exact H
              clear H
              have H := H1
              clear H1
              replace H := Option.bind_eq_some_iff.mp H
              obtain ⟨⟨t437, t438⟩, A220, H⟩ := H
              replace H : (if t438 = 0 then ((monikerplain_SameEdits.f kj15 t437 l1).bind fun t441 => (monikerlaw1_EditsBoth.j2 kj15 a0 l1 l2 t426 t427 (!t441))) else (monikerlaw1_EditsBoth.j2 kj15 a0 l1 l2 t426 t427 true)) = some r := H
              have A22 := Aside0.mk A220
              clear A220
              have HC23 := Aside0.mk H
              clear H
              go_upto_region 9 with (first | ((with_reducible refine gate_callee (f := 28) rfl ?_); refine goesL_ (some 79) rfl rfl Try.func28 (by kernel_rfl) rfl #[.int .i64 (a0.size : Int), .slice A1 l1.length c1, .slice none 0 0] rfl (by (try simp only [List.map_toArray, List.map_cons, List.map_nil]); first | done | rfl | (simp only [List.length_drop, List.length_take]; rfl)) ?_; (refine (edits_Merge.calls kj15 (a0.size : Int) _ _ l1 _ _ ([] : List (S42)) t437 t438 _ ?side1 ?side2 ?side3 ?side4 A22.out).mono ?_); (case side1 => repeat (first | exact (Kd.C_below HR1.out HB.out) | (with_reducible refine Kd.C_alloc ?_ _) | (with_reducible refine Kd.C_drewN ?_ _) | (with_reducible refine Kd.C_drew ?_))); (case side2 => exact HC1.out); (case side3 => exact Kd.C_nil _ _); (case side4 => exact Nat.le_refl _); rintro e w24 ⟨v439, rfl, ho0, hb⟩; refine ⟨_, rfl, ?_⟩; have n0_ := Aside0.mk (Kd.R_elder' (by (with_reducible repeat (first | apply Kd.R_alloc | apply Kd.R_drewN | apply Kd.R_drew)); exact HO_7.out) (Kd.R_base ho0) hb); have n1_ := Aside0.mk (Kd.R_lower (Kd.R_new' ho0 (Kd.R_lt (by (with_reducible repeat (first | apply Kd.R_alloc | apply Kd.R_drewN | apply Kd.R_drew)); exact HO_7.out))) (below_size (by repeat (first | (with_reducible first | exact HB.out | apply below_alloc | apply pw_below_drewN | apply below_drew1) | exact HB.out)))); have n2_ := Aside0.mk (below_step (by repeat (first | (with_reducible first | exact HB.out | apply below_alloc | apply pw_below_drewN | apply below_drew1) | exact HB.out)) hb); clear HO_7; clear HB; have HO_7 := n0_; have HO440 := n1_; have HB := n2_; clear n0_ n1_ n2_; (try clear hb); (try clear hb2); (try clear hk); (try clear hi); (try clear ho0)))
              (try simp only [Act.put, List.setIfInBounds_toArray, List.set_cons_zero, List.set_cons_succ])
              go_cut [89] (fun v89 wc => ∃ (kq : Nat) (x89_22 : Bool), v89 = .bool x89_22 ∧ Aside0 (monikerlaw1_EditsBoth.j2 kq a0 l1 l2 t426 t427 x89_22 = some r) ∧ Aside0 (kq ≤ kj15) ∧ Aside0 (Kd.R k42 42 wc w.heap.size (fun _ => True) v428 t426) ∧ Aside0 (Below w.heap.size w wc))
              case first =>
                have H := HC23.out
                clear HC23
                by_cases c25 : t438 = 0
                · rw [if_pos c25] at H
                  have c25b0 : (t438 == 0) = true := beq_iff_eq.mpr c25
                  have c25b1 : (t438 != 0) = false := bne_eq_false_iff_eq.mpr c25
                  clear c25
                  (first | rw [c25b0] | (simp only [i64_w, i32_w]; rw [c25b0]) | skip)
                  replace H := Option.bind_eq_some_iff.mp H
                  obtain ⟨t441, A260, H⟩ := H
                  replace H : (monikerlaw1_EditsBoth.j2 kj15 a0 l1 l2 t426 t427 (!t441)) = some r := H
                  have A26 := Aside0.mk A260
                  clear A260
                  have H' := Aside0.mk H
                  clear H
                  obtain ⟨Ao27, co27, eo27⟩ := Kd.R_slice HO440.out
                  subst eo27
                  go_wp2_with (first | (go_at_call 21; (with_reducible refine (monikerplain_SameEdits.calls kj15 _ _ t437 _ _ l1 t441 _ ?side1 ?side2 ?side3 ?side4 A26.out).mono ?_); (case side1 => repeat (first | exact (Kd.R_reads' HO440.out).2.2 | (with_reducible refine Kd.C_alloc ?_ _) | (with_reducible refine Kd.C_drewN ?_ _) | (with_reducible refine Kd.C_drew ?_))); (case side2 => exact (Kd.R_reads' HO440.out).2.1); (case side3 => repeat (first | exact (Kd.C_below HR1.out HB.out) | (with_reducible refine Kd.C_alloc ?_ _) | (with_reducible refine Kd.C_drewN ?_ _) | (with_reducible refine Kd.C_drew ?_))); (case side4 => exact HC1.out); rintro e w' ⟨rfl, ⟨nd, rfl⟩⟩))
                  go_meet
                  case rel => exact ⟨_, (!t441), (by first | rfl | (simp; done) | (simp [*]; done)), H', ⟨by have := HJ5.out; have := HJ15.out; first | omega | exact Nat.le_refl _⟩, ⟨by (with_reducible repeat (first | apply Kd.R_alloc | apply Kd.R_drewN | apply Kd.R_drew)); exact Kd.R_mono HO_7.out (fun _ hk => trivial)⟩, ⟨by repeat (first | (with_reducible first | exact HB.out | apply below_alloc | apply pw_below_drewN | apply below_drew1) | exact HB.out)⟩⟩
                · rw [if_neg c25] at H
                  have c25b0 : (t438 == 0) = false := beq_eq_false_iff_ne.mpr c25
                  have c25b1 : (t438 != 0) = true := bne_iff_ne.mpr c25
                  (first | rw [c25b0] | (simp only [i64_w, i32_w]; rw [c25b0]) | skip)
                  have H' := Aside0.mk H
                  clear H
                  go_wp2
                  go_meet
                  case rel => exact ⟨_, (true), (by first | rfl | (simp; done) | (simp [*]; done)), H', ⟨by have := HJ5.out; have := HJ15.out; first | omega | exact Nat.le_refl _⟩, ⟨by (with_reducible repeat (first | apply Kd.R_alloc | apply Kd.R_drewN | apply Kd.R_drew)); exact Kd.R_mono HO_7.out (fun _ hk => trivial)⟩, ⟨by repeat (first | (with_reducible first | exact HB.out | apply below_alloc | apply pw_below_drewN | apply below_drew1) | exact HB.out)⟩⟩
              case rest =>
                clear HC23
                try clear c1
                try clear c2
                try clear p2
                try clear c10
                try clear c10b0
                try clear c10b1
                try clear c11
                try clear c15
                try clear c16
                try clear c17
                try clear c17b0
                try clear c17b1
                try clear c21
                try clear c25
                try clear c25b0
                try clear c25b1
                try clear p2
                obtain ⟨kq, x89_22, rfl, HA, HJ22, HO_7, HB⟩ := hcut
                cases kq with
                | zero => exact absurd HA.out (by simp [monikerlaw1_EditsBoth.j2])
                | succ kj22 =>
                  have H := HA.out
                  clear HA
                  simp only [monikerlaw1_EditsBoth.j2] at H
                  by_cases c28 : x89_22 = true
                  · subst c28
                    have H1 : (some false) = some r := by rw [if_pos rfl] at H; exact H
                    clear H
                    have H := H1
                    clear H1
                    obtain rfl := Option.some.inj H
                    go_wp2
                    go_ret
                    exact ⟨by first | rfl | (simp [errW_none, errW_some] <;> rfl) | (simp [*, errW_none, errW_some] <;> rfl), by repeat (first | (with_reducible first | exact HB.out | apply below_alloc | apply pw_below_drewN | apply below_drew1) | exact HB.out)⟩
                  · replace c28 := Bool.eq_false_iff.mpr c28
                    subst c28
                    have H1 : (if t427 = 0 then ((edits_Apply.f kj22 a0 t426).bind fun bt442 => ((edits_Apply.f kj22 a0 l1).bind fun bt444 => (if bt442.2 = 0 then (monikerlaw1_EditsBoth.j3 kj22 l1 l2 bt442.1 bt444.1 (bt444.2 != 0)) else (monikerlaw1_EditsBoth.j3 kj22 l1 l2 bt442.1 bt444.1 true)))) else (some ((t426.length : Int) == 0))) = some r := by rw [if_neg (show ¬ (false = true) by decide)] at H; exact H
                    clear H
                    have H := H1
                    clear H1
                    by_cases c29 : t427 = 0
                    · rw [if_pos c29] at H
                      have c29b0 : (t427 == 0) = true := beq_iff_eq.mpr c29
                      have c29b1 : (t427 != 0) = false := bne_eq_false_iff_eq.mpr c29
                      clear c29
                      replace H := Option.bind_eq_some_iff.mp H
                      obtain ⟨⟨t442, t443⟩, A300, H⟩ := H
                      replace H : ((edits_Apply.f kj22 a0 l1).bind fun bt444 => (if t443 = 0 then (monikerlaw1_EditsBoth.j3 kj22 l1 l2 t442 bt444.1 (bt444.2 != 0)) else (monikerlaw1_EditsBoth.j3 kj22 l1 l2 t442 bt444.1 true))) = some r := H
                      have A30 := Aside0.mk A300
                      clear A300
                      replace H := Option.bind_eq_some_iff.mp H
                      obtain ⟨⟨t444, t445⟩, A310, H⟩ := H
                      replace H : (if t443 = 0 then (monikerlaw1_EditsBoth.j3 kj22 l1 l2 t442 t444 (t445 != 0)) else (monikerlaw1_EditsBoth.j3 kj22 l1 l2 t442 t444 true)) = some r := H
                      have A31 := Aside0.mk A310
                      clear A310
                      have HC32 := Aside0.mk H
                      clear H
                      obtain ⟨Ao33, co33, eo33⟩ := Kd.R_slice HO_7.out
                      subst eo33
                      go_upto_region 15 with (first | ((with_reducible refine gate_callee (f := 24) rfl ?_); refine goesL_ (some 98) rfl rfl Try.func24 (by kernel_rfl) rfl #[.string a0, .slice Ao33 t426.length co33] rfl (by (try simp only [List.map_toArray, List.map_cons, List.map_nil]); first | done | rfl | (simp only [List.length_drop, List.length_take]; rfl)) ?_; (with_reducible refine (edits_Apply.calls kj22 a0 _ _ t426 t442 t443 _ ?side1 ?side2 A30.out).mono ?_); (case side1 => repeat (first | exact (Kd.R_reads' HO_7.out).2.2 | (with_reducible refine Kd.C_alloc ?_ _) | (with_reducible refine Kd.C_drewN ?_ _) | (with_reducible refine Kd.C_drew ?_))); (case side2 => exact (Kd.R_reads' HO_7.out).2.1); rintro e w34 ⟨rfl, hb⟩; refine ⟨_, rfl, ?_⟩; have n0_ := Aside0.mk (Kd.R_below (by (with_reducible repeat (first | apply Kd.R_alloc | apply Kd.R_drewN | apply Kd.R_drew)); exact HO_7.out) hb); have n1_ := Aside0.mk (below_step (by repeat (first | (with_reducible first | exact HB.out | apply below_alloc | apply pw_below_drewN | apply below_drew1) | exact HB.out)) hb); clear HO_7; clear HB; have HO_7 := n0_; have HB := n1_; clear n0_ n1_; (try clear hb); (try clear hb2); (try clear hk); (try clear hi)) | ((with_reducible refine gate_callee (f := 24) rfl ?_); refine goesL_ (some 104) rfl rfl Try.func24 (by kernel_rfl) rfl #[.string a0, .slice A1 l1.length c1] rfl (by (try simp only [List.map_toArray, List.map_cons, List.map_nil]); first | done | rfl | (simp only [List.length_drop, List.length_take]; rfl)) ?_; (with_reducible refine (edits_Apply.calls kj22 a0 _ _ l1 t444 t445 _ ?side1 ?side2 A31.out).mono ?_); (case side1 => repeat (first | exact (Kd.C_below HR1.out HB.out) | (with_reducible refine Kd.C_alloc ?_ _) | (with_reducible refine Kd.C_drewN ?_ _) | (with_reducible refine Kd.C_drew ?_))); (case side2 => exact HC1.out); rintro e w35 ⟨rfl, hb⟩; refine ⟨_, rfl, ?_⟩; have n0_ := Aside0.mk (Kd.R_below (by (with_reducible repeat (first | apply Kd.R_alloc | apply Kd.R_drewN | apply Kd.R_drew)); exact HO_7.out) hb); have n1_ := Aside0.mk (below_step (by repeat (first | (with_reducible first | exact HB.out | apply below_alloc | apply pw_below_drewN | apply below_drew1) | exact HB.out)) hb); clear HO_7; clear HB; have HO_7 := n0_; have HB := n1_; clear n0_ n1_; (try clear hb); (try clear hb2); (try clear hk); (try clear hi)))
                      (try simp only [Act.put, List.setIfInBounds_toArray, List.set_cons_zero, List.set_cons_succ])
                      go_cut [112] (fun v112 wc => ∃ (kq : Nat) (x112_31 : Bool), v112 = .bool x112_31 ∧ Aside0 (monikerlaw1_EditsBoth.j3 kq l1 l2 t442 t444 x112_31 = some r) ∧ Aside0 (kq ≤ kj22) ∧ Aside0 (Below w.heap.size w wc))
                      case first =>
                        have H := HC32.out
                        clear HC32
                        by_cases c36 : t443 = 0
                        · rw [if_pos c36] at H
                          have c36b0 : (t443 == 0) = true := beq_iff_eq.mpr c36
                          have c36b1 : (t443 != 0) = false := bne_eq_false_iff_eq.mpr c36
                          clear c36
                          (first | rw [c36b0] | (simp only [i64_w, i32_w]; rw [c36b0]) | skip)
                          have H' := Aside0.mk H
                          clear H
                          go_wp2
                          go_meet
                          case rel => exact ⟨_, ((t445 != 0)), (by first | rfl | (simp; done) | (simp [*]; done)), H', ⟨by have := HJ5.out; have := HJ15.out; have := HJ22.out; first | omega | exact Nat.le_refl _⟩, ⟨by repeat (first | (with_reducible first | exact HB.out | apply below_alloc | apply pw_below_drewN | apply below_drew1) | exact HB.out)⟩⟩
                        · rw [if_neg c36] at H
                          have c36b0 : (t443 == 0) = false := beq_eq_false_iff_ne.mpr c36
                          have c36b1 : (t443 != 0) = true := bne_iff_ne.mpr c36
                          (first | rw [c36b0] | (simp only [i64_w, i32_w]; rw [c36b0]) | skip)
                          have H' := Aside0.mk H
                          clear H
                          go_wp2
                          go_meet
                          case rel => exact ⟨_, (true), (by first | rfl | (simp; done) | (simp [*]; done)), H', ⟨by have := HJ5.out; have := HJ15.out; have := HJ22.out; first | omega | exact Nat.le_refl _⟩, ⟨by repeat (first | (with_reducible first | exact HB.out | apply below_alloc | apply pw_below_drewN | apply below_drew1) | exact HB.out)⟩⟩
                      case rest =>
                        clear HC32
                        try clear c1
                        try clear c2
                        try clear p2
                        try clear c3
                        try clear c10
                        try clear c10b0
                        try clear c10b1
                        try clear c11
                        try clear c15
                        try clear c16
                        try clear c17
                        try clear c17b0
                        try clear c17b1
                        try clear c21
                        try clear c24
                        try clear c25
                        try clear c25b0
                        try clear c25b1
                        try clear c28
                        try clear c29
                        try clear c29b0
                        try clear c29b1
                        try clear c36
                        try clear c36b0
                        try clear c36b1
                        try clear p2
                        obtain ⟨kq, x112_31, rfl, HA, HJ31, HB⟩ := hcut
                        cases kq with
                        | zero => exact absurd HA.out (by simp [monikerlaw1_EditsBoth.j3])
                        | succ kj31 =>
                          have H := HA.out
                          clear HA
                          simp only [monikerlaw1_EditsBoth.j3] at H
                          by_cases c37 : x112_31 = true
                          · subst c37
                            have H1 : (some false) = some r := by rw [if_pos rfl] at H; exact H
                            clear H
                            have H := H1
                            clear H1
                            obtain rfl := Option.some.inj H
                            go_wp2
                            go_ret
                            exact ⟨by first | rfl | (simp [errW_none, errW_some] <;> rfl) | (simp [*, errW_none, errW_some] <;> rfl), by repeat (first | (with_reducible first | exact HB.out | apply below_alloc | apply pw_below_drewN | apply below_drew1) | exact HB.out)⟩
                          · replace c37 := Bool.eq_false_iff.mpr c37
                            subst c37
                            have H1 : (monikerlaw1_EditsBoth.l0 kj31 l1 l2 t442 t444 (wrap64 ((l2.length : Int) - 1))) = some r := by rw [if_neg (show ¬ (false = true) by decide)] at H; exact H
                            clear H
                            have H := H1
                            clear H1
                            have H' := Aside0.mk H
                            clear H
                            go_wp2
                            go_loopg [15, 17] kj31 (fun kq v15 v17 w' => ∃ (x15_5 : ByteArray) (x17_5 : Int), v15 = .string x15_5 ∧ v17 = .int .i64 x17_5 ∧ Aside0 (monikerlaw1_EditsBoth.l0 kq l1 l2 t442 x15_5 x17_5 = some r) ∧ Aside0 (kq ≤ kj31) ∧ Aside0 (Below w.heap.size w w'))
                            case atStart => exact ⟨(t444), (wrap64 ((l2.length : Int) - 1)), (by first | rfl | (simp; done) | (simp [*]; done)), (by first | rfl | (simp; done) | (simp [*]; done)), H', ⟨Nat.le_refl _⟩, ⟨by repeat (first | (with_reducible first | exact HB.out | apply below_alloc | apply pw_below_drewN | apply below_drew1) | exact HB.out)⟩⟩
                            case round =>
                              clear H'
                              try clear c1
                              try clear c2
                              try clear p2
                              try clear c3
                              try clear p6
                              try clear c10
                              try clear c10b0
                              try clear c10b1
                              try clear c11
                              try clear c15
                              try clear c16
                              try clear c17
                              try clear c17b0
                              try clear c17b1
                              try clear c21
                              try clear c24
                              try clear c25
                              try clear c25b0
                              try clear c25b1
                              try clear c28
                              try clear c29
                              try clear c29b0
                              try clear c29b1
                              try clear c36
                              try clear c36b0
                              try clear c36b1
                              try clear c37
                              try clear p2
                              obtain ⟨x15_5, x17_5, rfl, rfl, HA, HK5, HB⟩ := hrel
                              cases gk with
                              | zero => exact absurd HA.out (by simp [monikerlaw1_EditsBoth.l0])
                              | succ k5 =>
                                have H := HA.out
                                clear HA
                                simp only [monikerlaw1_EditsBoth.l0] at H
                                by_cases c38 : x17_5 ≥ 0
                                · rw [if_pos c38] at H
                                  have c38b0 : decide (0 ≤ x17_5) = true := decide_eq_true c38
                                  clear c38
                                  by_cases c39 : 0 ≤ x17_5
                                  · rw [if_pos c39] at H
                                    have c39b0 : decide (0 ≤ x17_5) = true := decide_eq_true c39
                                    clear c39
                                    by_cases c40 : x17_5 < (l2.length : Int)
                                    · rw [if_pos c40] at H
                                      have c40b0 : decide (x17_5 < (l2.length : Int)) = true := decide_eq_true c40
                                      clear c40
                                      replace H := Option.bind_eq_some_iff.mp H
                                      obtain ⟨⟨t447, t448⟩, A410, H⟩ := H
                                      replace H : (if t448 = true then ((edits_Apply.f k5 x15_5 (([(⟨t447, wrap64 ((wrap64 (t447 + ((rd_T42 l2 x17_5).f1))) - ((rd_T42 l2 x17_5).f0)), (rd_T42 l2 x17_5).f2⟩ : S42)] : List (S42)))).bind fun bt455 => (if bt455.2 = 0 then (monikerlaw1_EditsBoth.l0 k5 l1 l2 t442 bt455.1 (wrap64 (x17_5 - 1))) else (some false))) else (some false)) = some r := H
                                      have A41 := Aside0.mk A410
                                      clear A410
                                      by_cases c42 : t448 = true
                                      · subst c42
                                        have H1 : ((edits_Apply.f k5 x15_5 (([(⟨t447, wrap64 ((wrap64 (t447 + ((rd_T42 l2 x17_5).f1))) - ((rd_T42 l2 x17_5).f0)), (rd_T42 l2 x17_5).f2⟩ : S42)] : List (S42)))).bind fun bt455 => (if bt455.2 = 0 then (monikerlaw1_EditsBoth.l0 k5 l1 l2 t442 bt455.1 (wrap64 (x17_5 - 1))) else (some false))) = some r := by rw [if_pos rfl] at H; exact H
                                        clear H
                                        have H := H1
                                        clear H1
                                        obtain ⟨y452, hy452⟩ : ∃ y_ : List (S42), y_ = (([(⟨t447, wrap64 ((wrap64 (t447 + ((rd_T42 l2 x17_5).f1))) - ((rd_T42 l2 x17_5).f0)), (rd_T42 l2 x17_5).f2⟩ : S42)] : List (S42))) := ⟨_, rfl⟩
                                        replace H : ((edits_Apply.f k5 x15_5 y452).bind fun bt455 => (if bt455.2 = 0 then (monikerlaw1_EditsBoth.l0 k5 l1 l2 t442 bt455.1 (wrap64 (x17_5 - 1))) else (some false))) = some r := by first | (rw [hy452]; with_reducible exact H) | (have H2_ := (Option.bind_some _ _).symm.trans H; rw [hy452]; with_reducible exact H2_) | (have H2_ := (Option.bind_some _ _).symm.trans H; with_reducible exact H2_) | with_reducible exact H | (rw [hy452]; exact H) | exact H
                                        have Ny452 := Aside0.mk hy452
                                        clear hy452
                                        replace H := Option.bind_eq_some_iff.mp H
                                        obtain ⟨⟨t455, t456⟩, A430, H⟩ := H
                                        replace H : (if t456 = 0 then (monikerlaw1_EditsBoth.l0 k5 l1 l2 t442 t455 (wrap64 (x17_5 - 1))) else (some false)) = some r := H
                                        have A43 := Aside0.mk A430
                                        clear A430
                                        by_cases c44 : t456 = 0
                                        · rw [if_pos c44] at H
                                          have c44b0 : (t456 == 0) = true := beq_iff_eq.mpr c44
                                          have c44b1 : (t456 != 0) = false := bne_eq_false_iff_eq.mpr c44
                                          clear c44
                                          have H' := Aside0.mk H
                                          clear H
                                          have p446 : 0 ≤ (x17_5 : Int) := of_decide_eq_true (by first | (with_reducible assumption) | assumption)
                                          have q446 : x17_5 < (l2.length : Int) := of_decide_eq_true (by first | (with_reducible assumption) | assumption)
                                          obtain ⟨ad446, e446, hx446_0, hx446_1, hx446_2⟩ := at_T42 HR2.out x17_5 p446 q446
                                          cases e446
                                          replace hx446_0 := (HB.out.cell (World.block_lt_of_cell? w _ hx446_0)).trans hx446_0
                                          replace hx446_1 := (HB.out.cell (World.block_lt_of_cell? w _ hx446_1)).trans hx446_1
                                          replace hx446_2 := (HB.out.cell (World.block_lt_of_cell? w _ hx446_2)).trans hx446_2
                                          replace p446 := eq_true p446
                                          replace q446 := eq_true q446
                                          try go_wp2_with (first | ((with_reducible refine gate_callee (f := 22) rfl ?_); refine goesL_ (some 127) rfl rfl Try.func22 (by kernel_rfl) rfl #[.slice A1 l1.length c1, .int .i64 ((rd_T42 l2 x17_5).f0)] rfl (by (try simp only [List.map_toArray, List.map_cons, List.map_nil]); first | done | rfl | (simp only [List.length_drop, List.length_take]; rfl)) ?_; (with_reducible refine (edits_Shift.calls k5 _ _ l1 ((rd_T42 l2 x17_5).f0) t447 true _ ?side1 ?side2 A41.out).mono ?_); (case side1 => repeat (first | exact (Kd.C_below HR1.out HB.out) | (with_reducible refine Kd.C_alloc ?_ _) | (with_reducible refine Kd.C_drewN ?_ _) | (with_reducible refine Kd.C_drew ?_))); (case side2 => exact HC1.out); rintro e w45 ⟨rfl, hb⟩; refine ⟨_, rfl, ?_⟩; have n0_ := Aside0.mk (below_step (by repeat (first | (with_reducible first | exact HB.out | apply below_alloc | apply pw_below_drewN | apply below_drew1) | exact HB.out)) hb); clear HB; have HB := n0_; clear n0_; (try clear hb); (try clear hb2); (try clear hk); (try clear hi)))
                                          have n0_ := Aside0.mk (below_drew1 HB.out)
                                          clear HB
                                          have HB := n0_
                                          clear n0_
                                          have p449 : 0 ≤ (x17_5 : Int) := of_decide_eq_true (by first | (with_reducible assumption) | assumption)
                                          have q449 : x17_5 < (l2.length : Int) := of_decide_eq_true (by first | (with_reducible assumption) | assumption)
                                          obtain ⟨ad449, e449, hx449_0, hx449_1, hx449_2⟩ := at_T42 HR2.out x17_5 p449 q449
                                          have hw449_2 := hx449_2
                                          have hw449_1 := hx449_1
                                          have hw449_0 := hx449_0
                                          obtain rfl : ad446 = ad449 := (by injection e449)
                                          replace hx449_0 := (HB.out.cell (World.block_lt_of_cell? w _ hx449_0)).trans hx449_0
                                          replace hx449_1 := (HB.out.cell (World.block_lt_of_cell? w _ hx449_1)).trans hx449_1
                                          replace hx449_2 := (HB.out.cell (World.block_lt_of_cell? w _ hx449_2)).trans hx449_2
                                          replace p449 := eq_true p449
                                          replace q449 := eq_true q449
                                          have p450 : 0 ≤ (x17_5 : Int) := of_decide_eq_true (by first | (with_reducible assumption) | assumption)
                                          have q450 : x17_5 < (l2.length : Int) := of_decide_eq_true (by first | (with_reducible assumption) | assumption)
                                          obtain ⟨ad450, e450, hx450_0, hx450_1, hx450_2⟩ := at_T42 HR2.out x17_5 p450 q450
                                          have hw450_2 := hx450_2
                                          have hw450_1 := hx450_1
                                          have hw450_0 := hx450_0
                                          obtain rfl : ad446 = ad450 := (by injection e450)
                                          replace hx450_0 := (HB.out.cell (World.block_lt_of_cell? w _ hx450_0)).trans hx450_0
                                          replace hx450_1 := (HB.out.cell (World.block_lt_of_cell? w _ hx450_1)).trans hx450_1
                                          replace hx450_2 := (HB.out.cell (World.block_lt_of_cell? w _ hx450_2)).trans hx450_2
                                          replace p450 := eq_true p450
                                          replace q450 := eq_true q450
                                          have p451 : 0 ≤ (x17_5 : Int) := of_decide_eq_true (by first | (with_reducible assumption) | assumption)
                                          have q451 : x17_5 < (l2.length : Int) := of_decide_eq_true (by first | (with_reducible assumption) | assumption)
                                          obtain ⟨ad451, e451, hx451_0, hx451_1, hx451_2⟩ := at_T42 HR2.out x17_5 p451 q451
                                          have hw451_2 := hx451_2
                                          have hw451_1 := hx451_1
                                          have hw451_0 := hx451_0
                                          obtain rfl : ad446 = ad451 := (by injection e451)
                                          replace hx451_0 := (HB.out.cell (World.block_lt_of_cell? w _ hx451_0)).trans hx451_0
                                          replace hx451_1 := (HB.out.cell (World.block_lt_of_cell? w _ hx451_1)).trans hx451_1
                                          replace hx451_2 := (HB.out.cell (World.block_lt_of_cell? w _ hx451_2)).trans hx451_2
                                          replace p451 := eq_true p451
                                          replace q451 := eq_true q451
                                          refine start_ (n := 28) (S := fun w' => w'.cell? (ad446.add ((x17_5).toNat * 3)) = some (.int .i64 ((rd_T42 l2 x17_5).f0)) ∧ w'.cell? ⟨(ad446.add ((x17_5).toNat * 3)).block, (ad446.add ((x17_5).toNat * 3)).off + 1, none⟩ = some (.int .i64 ((rd_T42 l2 x17_5).f1)) ∧ w'.cell? ⟨(ad446.add ((x17_5).toNat * 3)).block, (ad446.add ((x17_5).toNat * 3)).off + 2, none⟩ = some (.string ((rd_T42 l2 x17_5).f2)) ∧ w'.cell? (ad446.add ((x17_5).toNat * 3)) = some (.int .i64 ((rd_T42 l2 x17_5).f0)) ∧ w'.cell? ⟨(ad446.add ((x17_5).toNat * 3)).block, (ad446.add ((x17_5).toNat * 3)).off + 1, none⟩ = some (.int .i64 ((rd_T42 l2 x17_5).f1)) ∧ w'.cell? ⟨(ad446.add ((x17_5).toNat * 3)).block, (ad446.add ((x17_5).toNat * 3)).off + 2, none⟩ = some (.string ((rd_T42 l2 x17_5).f2)) ∧ w'.cell? (ad446.add ((x17_5).toNat * 3)) = some (.int .i64 ((rd_T42 l2 x17_5).f0)) ∧ w'.cell? ⟨(ad446.add ((x17_5).toNat * 3)).block, (ad446.add ((x17_5).toNat * 3)).off + 1, none⟩ = some (.int .i64 ((rd_T42 l2 x17_5).f1)) ∧ w'.cell? ⟨(ad446.add ((x17_5).toNat * 3)).block, (ad446.add ((x17_5).toNat * 3)).off + 2, none⟩ = some (.string ((rd_T42 l2 x17_5).f2))) (ds := []) #[false, false, false, false, false, false, false, false, false, false, false, false, false, false, false, false, false, false, false, false, false, false, false, false, false, false, false, false] (by kernel_rfl) rfl rfl ⟨((HB.out.cell (World.block_lt_of_cell? w _ hw449_0)).trans hw449_0), ((HB.out.cell (World.block_lt_of_cell? w _ hw449_1)).trans hw449_1), ((HB.out.cell (World.block_lt_of_cell? w _ hw449_2)).trans hw449_2), ((HB.out.cell (World.block_lt_of_cell? w _ hw450_0)).trans hw450_0), ((HB.out.cell (World.block_lt_of_cell? w _ hw450_1)).trans hw450_1), ((HB.out.cell (World.block_lt_of_cell? w _ hw450_2)).trans hw450_2), ((HB.out.cell (World.block_lt_of_cell? w _ hw451_0)).trans hw451_0), ((HB.out.cell (World.block_lt_of_cell? w _ hw451_1)).trans hw451_1), ((HB.out.cell (World.block_lt_of_cell? w _ hw451_2)).trans hw451_2)⟩ (fun hHeld => ?_); refine with_tabW monikerlaw1_EditsBoth.tab23 monikerlaw1_EditsBoth.bits23 (fun HT_ HW_ => ?_)
                                          generalize w45.drew = w46 at HB hx449_0 hx449_1 hx449_2 hx450_0 hx450_1 hx450_2 hx451_0 hx451_1 hx451_2 hHeld ⊢
                                          refine pure_ (i := 0) (N := some 133) (v := ?_) (a' := ?_) #[true, false, false, false, false, false, false, false, false, false, false, false, false, false, false, false, false, false, false, false, false, false, false, false, false, false, false, false] rfl rfl (any_of HT_.out (by kernel_rfl)) (fun _ _ _ h => h) (Or.inl ⟨by rfl, ?_⟩) ?_ ?_
                                          rotate_left
                                          · intro w'
                                            go_simp
                                            with_reducible rfl
                                          rotate_left
                                          · simp only [Act.put, List.setIfInBounds_toArray, List.set_cons_zero, List.set_cons_succ, i64_w, i32_w]
                                            rfl
                                          refine pure_ (i := 1) (N := some 134) (v := ?_) (a' := ?_) #[true, true, false, false, false, false, false, false, false, false, false, false, false, false, false, false, false, false, false, false, false, false, false, false, false, false, false, false] rfl rfl (any_of HT_.out (by kernel_rfl)) (fun _ _ _ h => h) (Or.inl ⟨by rfl, ?_⟩) ?_ ?_
                                          rotate_left
                                          · intro w'
                                            go_simp
                                            with_reducible rfl
                                          rotate_left
                                          · simp only [Act.put, List.setIfInBounds_toArray, List.set_cons_zero, List.set_cons_succ, i64_w, i32_w]
                                            rfl
                                          refine pure_ (i := 2) (N := some 135) (v := ?_) (a' := ?_) #[true, true, true, false, false, false, false, false, false, false, false, false, false, false, false, false, false, false, false, false, false, false, false, false, false, false, false, false] rfl rfl (any_of HT_.out (by kernel_rfl)) (fun _ _ _ h => h) (Or.inl ⟨by rfl, ?_⟩) ?_ ?_
                                          rotate_left
                                          · intro w'
                                            go_simp
                                            with_reducible rfl
                                          rotate_left
                                          · simp only [Act.put, List.setIfInBounds_toArray, List.set_cons_zero, List.set_cons_succ, i64_w, i32_w]
                                            rfl
                                          refine pure_ (i := 3) (N := some 136) (v := ?_) (a' := ?_) #[true, true, true, true, false, false, false, false, false, false, false, false, false, false, false, false, false, false, false, false, false, false, false, false, false, false, false, false] rfl rfl (any_of HT_.out (by kernel_rfl)) (fun _ _ _ h => h) (Or.inl ⟨by rfl, ?_⟩) ?_ ?_
                                          rotate_left
                                          · intro w'
                                            go_simp
                                            with_reducible rfl
                                          rotate_left
                                          · simp only [Act.put, List.setIfInBounds_toArray, List.set_cons_zero, List.set_cons_succ, i64_w, i32_w]
                                            rfl
                                          refine pure_ (i := 4) (N := some 137) (v := ?_) (a' := ?_) #[true, true, true, true, true, false, false, false, false, false, false, false, false, false, false, false, false, false, false, false, false, false, false, false, false, false, false, false] rfl rfl (any_of HT_.out (by kernel_rfl)) (fun _ _ _ h => h) (Or.inl ⟨by rfl, ?_⟩) ?_ ?_
                                          rotate_left
                                          · intro w'
                                            go_simp
                                            with_reducible rfl
                                          rotate_left
                                          · simp only [Act.put, List.setIfInBounds_toArray, List.set_cons_zero, List.set_cons_succ, i64_w, i32_w]
                                            rfl
                                          refine pure_ (i := 5) (N := some 138) (v := ?_) (a' := ?_) #[true, true, true, true, true, true, false, false, false, false, false, false, false, false, false, false, false, false, false, false, false, false, false, false, false, false, false, false] rfl rfl (any_of HT_.out (by kernel_rfl)) (fun _ _ _ h => h) (Or.inl ⟨by rfl, ?_⟩) ?_ ?_
                                          rotate_left
                                          · intro w'
                                            go_simp
                                            with_reducible rfl
                                          rotate_left
                                          · simp only [Act.put, List.setIfInBounds_toArray, List.set_cons_zero, List.set_cons_succ, i64_w, i32_w]
                                            rfl
                                          refine pure_ (i := 6) (N := some 139) (v := ?_) (a' := ?_) #[true, true, true, true, true, true, true, false, false, false, false, false, false, false, false, false, false, false, false, false, false, false, false, false, false, false, false, false] rfl rfl (any_of HT_.out (by kernel_rfl)) (fun _ _ _ h => h) (Or.inl ⟨by rfl, ?_⟩) ?_ ?_
                                          rotate_left
                                          · intro w'
                                            go_simp
                                            with_reducible rfl
                                          rotate_left
                                          · simp only [Act.put, List.setIfInBounds_toArray, List.set_cons_zero, List.set_cons_succ, i64_w, i32_w]
                                            rfl
                                          refine pure_ (i := 9) (N := some 142) (v := ?_) (a' := ?_) #[true, true, true, true, true, true, true, false, false, true, false, false, false, false, false, false, false, false, false, false, false, false, false, false, false, false, false, false] rfl rfl (any_of HT_.out (by kernel_rfl)) (fun _ _ _ h => h) (Or.inl ⟨by rfl, ?_⟩) ?_ ?_
                                          rotate_left
                                          · intro w'
                                            go_simp
                                            with_reducible rfl
                                          rotate_left
                                          · simp only [Act.put, List.setIfInBounds_toArray, List.set_cons_zero, List.set_cons_succ, i64_w, i32_w]
                                            rfl
                                          refine pure_ (i := 10) (N := some 143) (v := ?_) (a' := ?_) #[true, true, true, true, true, true, true, false, false, true, true, false, false, false, false, false, false, false, false, false, false, false, false, false, false, false, false, false] rfl rfl (any_of HT_.out (by kernel_rfl)) (fun _ _ _ h => h) (Or.inl ⟨by rfl, ?_⟩) ?_ ?_
                                          rotate_left
                                          · intro w'
                                            go_simp
                                            with_reducible rfl
                                          rotate_left
                                          · simp only [Act.put, List.setIfInBounds_toArray, List.set_cons_zero, List.set_cons_succ, i64_w, i32_w]
                                            rfl
                                          refine pure_ (i := 11) (N := some 144) (v := ?_) (a' := ?_) #[true, true, true, true, true, true, true, false, false, true, true, true, false, false, false, false, false, false, false, false, false, false, false, false, false, false, false, false] rfl rfl (any_of HT_.out (by kernel_rfl)) (fun _ _ _ h => h) (Or.inl ⟨by rfl, ?_⟩) ?_ ?_
                                          rotate_left
                                          · intro w'
                                            go_simp
                                            with_reducible rfl
                                          rotate_left
                                          · simp only [Act.put, List.setIfInBounds_toArray, List.set_cons_zero, List.set_cons_succ, i64_w, i32_w]
                                            rfl
                                          refine pure_ (i := 12) (N := some 145) (v := ?_) (a' := ?_) #[true, true, true, true, true, true, true, false, false, true, true, true, true, false, false, false, false, false, false, false, false, false, false, false, false, false, false, false] rfl rfl (any_of HT_.out (by kernel_rfl)) (fun _ _ _ h => h) (Or.inl ⟨by rfl, ?_⟩) ?_ ?_
                                          rotate_left
                                          · intro w'
                                            go_simp
                                            with_reducible rfl
                                          rotate_left
                                          · simp only [Act.put, List.setIfInBounds_toArray, List.set_cons_zero, List.set_cons_succ, i64_w, i32_w]
                                            rfl
                                          refine pure_ (i := 15) (N := some 148) (v := ?_) (a' := ?_) #[true, true, true, true, true, true, true, false, false, true, true, true, true, false, false, true, false, false, false, false, false, false, false, false, false, false, false, false] rfl rfl (any_of HT_.out (by kernel_rfl)) (fun _ _ _ h => h) (Or.inl ⟨by rfl, ?_⟩) ?_ ?_
                                          rotate_left
                                          · intro w'
                                            go_simp
                                            with_reducible rfl
                                          rotate_left
                                          · simp only [Act.put, List.setIfInBounds_toArray, List.set_cons_zero, List.set_cons_succ, i64_w, i32_w]
                                            rfl
                                          refine pure_ (i := 16) (N := some 149) (v := ?_) (a' := ?_) #[true, true, true, true, true, true, true, false, false, true, true, true, true, false, false, true, true, false, false, false, false, false, false, false, false, false, false, false] rfl rfl (any_of HT_.out (by kernel_rfl)) (fun _ _ _ h => h) (Or.inl ⟨by rfl, ?_⟩) ?_ ?_
                                          rotate_left
                                          · intro w'
                                            go_simp
                                            with_reducible rfl
                                          rotate_left
                                          · simp only [Act.put, List.setIfInBounds_toArray, List.set_cons_zero, List.set_cons_succ, i64_w, i32_w]
                                            rfl
                                          refine pure_ (i := 17) (N := some 150) (v := ?_) (a' := ?_) #[true, true, true, true, true, true, true, false, false, true, true, true, true, false, false, true, true, true, false, false, false, false, false, false, false, false, false, false] rfl rfl (any_of HT_.out (by kernel_rfl)) (fun _ _ _ h => h) (Or.inl ⟨by rfl, ?_⟩) ?_ ?_
                                          rotate_left
                                          · intro w'
                                            go_simp
                                            with_reducible rfl
                                          rotate_left
                                          · simp only [Act.put, List.setIfInBounds_toArray, List.set_cons_zero, List.set_cons_succ, i64_w, i32_w]
                                            rfl
                                          refine pure_ (i := 18) (N := some 151) (v := ?_) (a' := ?_) #[true, true, true, true, true, true, true, false, false, true, true, true, true, false, false, true, true, true, true, false, false, false, false, false, false, false, false, false] rfl rfl (any_of HT_.out (by kernel_rfl)) (fun _ _ _ h => h) (Or.inl ⟨by rfl, ?_⟩) ?_ ?_
                                          rotate_left
                                          · intro w'
                                            go_simp
                                            with_reducible rfl
                                          rotate_left
                                          · simp only [Act.put, List.setIfInBounds_toArray, List.set_cons_zero, List.set_cons_succ, i64_w, i32_w]
                                            rfl
                                          refine take_ (i := 7) (N := some 140) (v := ?_) (a' := ?_) #[true, true, true, true, true, true, true, true, false, true, true, true, true, false, false, true, true, true, true, false, false, false, false, false, false, false, false, false] rfl rfl (take_ofW HT_.out HW_.out (by kernel_rfl)) (fun _ _ _ h => h) (Or.inl ⟨by rfl, ?_⟩) hHeld ?_ ?_
                                          rotate_left
                                          · rintro w' ⟨s0, s1, s2, s3, s4, s5, s6, s7, s8⟩
                                            go_simp
                                            with_reducible rfl
                                          rotate_left
                                          · simp only [Act.put, List.setIfInBounds_toArray, List.set_cons_zero, List.set_cons_succ, i64_w, i32_w]
                                            rfl
                                          refine pure_ (i := 8) (N := some 141) (v := ?_) (a' := ?_) #[true, true, true, true, true, true, true, true, true, true, true, true, true, false, false, true, true, true, true, false, false, false, false, false, false, false, false, false] rfl rfl (any_of HT_.out (by kernel_rfl)) (fun _ _ _ h => h) (Or.inl ⟨by rfl, ?_⟩) ?_ ?_
                                          rotate_left
                                          · intro w'
                                            go_simp
                                            with_reducible rfl
                                          rotate_left
                                          · simp only [Act.put, List.setIfInBounds_toArray, List.set_cons_zero, List.set_cons_succ, i64_w, i32_w]
                                            rfl
                                          refine take_ (i := 13) (N := some 146) (v := ?_) (a' := ?_) #[true, true, true, true, true, true, true, true, true, true, true, true, true, true, false, true, true, true, true, false, false, false, false, false, false, false, false, false] rfl rfl (take_ofW HT_.out HW_.out (by kernel_rfl)) (fun _ _ _ h => h) (Or.inl ⟨by rfl, ?_⟩) hHeld ?_ ?_
                                          rotate_left
                                          · rintro w' ⟨s0, s1, s2, s3, s4, s5, s6, s7, s8⟩
                                            go_simp
                                            with_reducible rfl
                                          rotate_left
                                          · simp only [Act.put, List.setIfInBounds_toArray, List.set_cons_zero, List.set_cons_succ, i64_w, i32_w]
                                            rfl
                                          refine pure_ (i := 14) (N := some 147) (v := ?_) (a' := ?_) #[true, true, true, true, true, true, true, true, true, true, true, true, true, true, true, true, true, true, true, false, false, false, false, false, false, false, false, false] rfl rfl (any_of HT_.out (by kernel_rfl)) (fun _ _ _ h => h) (Or.inl ⟨by rfl, ?_⟩) ?_ ?_
                                          rotate_left
                                          · intro w'
                                            go_simp
                                            with_reducible rfl
                                          rotate_left
                                          · simp only [Act.put, List.setIfInBounds_toArray, List.set_cons_zero, List.set_cons_succ, i64_w, i32_w]
                                            rfl
                                          refine take_ (i := 19) (N := some 152) (v := ?_) (a' := ?_) #[true, true, true, true, true, true, true, true, true, true, true, true, true, true, true, true, true, true, true, true, false, false, false, false, false, false, false, false] rfl rfl (take_ofW HT_.out HW_.out (by kernel_rfl)) (fun _ _ _ h => h) (Or.inl ⟨by rfl, ?_⟩) hHeld ?_ ?_
                                          rotate_left
                                          · rintro w' ⟨s0, s1, s2, s3, s4, s5, s6, s7, s8⟩
                                            go_simp
                                            with_reducible rfl
                                          rotate_left
                                          · simp only [Act.put, List.setIfInBounds_toArray, List.set_cons_zero, List.set_cons_succ, i64_w, i32_w]
                                            rfl
                                          refine pure_ (i := 20) (N := some 153) (v := ?_) (a' := ?_) #[true, true, true, true, true, true, true, true, true, true, true, true, true, true, true, true, true, true, true, true, true, false, false, false, false, false, false, false] rfl rfl (any_of HT_.out (by kernel_rfl)) (fun _ _ _ h => h) (Or.inl ⟨by rfl, ?_⟩) ?_ ?_
                                          rotate_left
                                          · intro w'
                                            go_simp
                                            with_reducible rfl
                                          rotate_left
                                          · simp only [Act.put, List.setIfInBounds_toArray, List.set_cons_zero, List.set_cons_succ, i64_w, i32_w]
                                            rfl
                                          refine one_ (i := 21) (N := some 154) #[true, true, true, true, true, true, true, true, true, true, true, true, true, true, true, true, true, true, true, true, true, true, false, false, false, false, false, false] rfl rfl (one_of HT_.out (by kernel_rfl)) (by decide) (fun K hK => ?_)
                                          refine Kd.R_lit_step k42 _ 42 ?hg (N := 154) ?hd (xs := ([(⟨t447, wrap64 ((wrap64 (t447 + ((rd_T42 l2 x17_5).f1))) - ((rd_T42 l2 x17_5).f0)), (rd_T42 l2 x17_5).f2⟩ : S42)] : List (S42))) (inner := [.int .i64 t447, .int .i64 (wrap64 ((wrap64 (t447 + ((rd_T42 l2 x17_5).f1))) - ((rd_T42 l2 x17_5).f0))), .string ((rd_T42 l2 x17_5).f2)]) (ok := fun _ => True) (okp := fun _ => True) ?hr ?hp (fun _ hk => hk) trivial (Below.refl _ _) (Nat.le_refl _) (by simp) ?_; (case hd => rfl); (case hg => rfl); (case hr => first | (go_simp; done) | (go_simp; rfl)); (case hp => exact (Reps.c3 (show Kd.M k42 _ _ _ (⟨t447, wrap64 ((wrap64 (t447 + ((rd_T42 l2 x17_5).f1))) - ((rd_T42 l2 x17_5).f0)), (rd_T42 l2 x17_5).f2⟩ : S42) [.int .i64 t447, .int .i64 (wrap64 ((wrap64 (t447 + ((rd_T42 l2 x17_5).f1))) - ((rd_T42 l2 x17_5).f0))), .string ((rd_T42 l2 x17_5).f2)] from (k42_mkM _ _ _ (⟨t447, wrap64 ((wrap64 (t447 + ((rd_T42 l2 x17_5).f1))) - ((rd_T42 l2 x17_5).f0)), (rd_T42 l2 x17_5).f2⟩ : S42) )) (Reps.none _ _)))
                                          intro v453 w47 ho48 hb hg_ hnew_
                                          clear hg_ hnew_
                                          (first | rw [← Ny452.out] at ho48 | (simp only [Int.reduceToNat] at ho48; rw [← Ny452.out] at ho48))
                                          have n0_ := Aside0.mk (Kd.R_lower ho48 (below_size (by repeat (first | (with_reducible first | exact HB.out | apply below_alloc | apply pw_below_drewN | apply below_drew1) | exact HB.out))))
                                          have n1_ := Aside0.mk (below_step (by repeat (first | (with_reducible first | exact HB.out | apply below_alloc | apply pw_below_drewN | apply below_drew1) | exact HB.out)) hb)
                                          clear HB
                                          have HO454 := n0_
                                          have HB := n1_
                                          clear n0_ n1_
                                          clear hb ho48
                                          obtain ⟨Ao49, co49, eo49⟩ := Kd.R_slice HO454.out
                                          (first | subst eo49 | (injection eo49 with f1_ f2_ f3_; have f4_ := f1_.symm; have f5_ := f3_.symm; clear f1_ f2_ f3_; subst f4_; subst f5_))
                                          refine hK.out _ _ ⟨((HB.out.cell (World.block_lt_of_cell? w _ hw449_0)).trans hw449_0), ((HB.out.cell (World.block_lt_of_cell? w _ hw449_1)).trans hw449_1), ((HB.out.cell (World.block_lt_of_cell? w _ hw449_2)).trans hw449_2), ((HB.out.cell (World.block_lt_of_cell? w _ hw450_0)).trans hw450_0), ((HB.out.cell (World.block_lt_of_cell? w _ hw450_1)).trans hw450_1), ((HB.out.cell (World.block_lt_of_cell? w _ hw450_2)).trans hw450_2), ((HB.out.cell (World.block_lt_of_cell? w _ hw451_0)).trans hw451_0), ((HB.out.cell (World.block_lt_of_cell? w _ hw451_1)).trans hw451_1), ((HB.out.cell (World.block_lt_of_cell? w _ hw451_2)).trans hw451_2)⟩ (fun hHeld => ?_)
                                          clear hK K
                                          refine norm_ (a' := ?_) ?_ ?_
                                          rotate_left
                                          · show Act.put _ (some 154) _ = _
                                            simp only [Act.put, List.setIfInBounds_toArray, List.set_cons_zero, List.set_cons_succ, i64_w, i32_w]
                                            rfl
                                          refine one_ (i := 22) (N := some 155) #[true, true, true, true, true, true, true, true, true, true, true, true, true, true, true, true, true, true, true, true, true, true, true, false, false, false, false, false] rfl rfl (one_of HT_.out (by kernel_rfl)) (by decide) (fun K hK => ?_)
                                          refine goes_ Try.func24 (by kernel_rfl) rfl #[.string x15_5, .slice Ao49 y452.length co49] (by rfl) rfl rfl (by (try simp only [List.map_toArray, List.map_cons, List.map_nil]); first | done | rfl | (simp only [List.length_drop, List.length_take]; rfl)) ?_
                                          with_reducible refine (edits_Apply.calls k5 x15_5 _ _ y452 t455 t456 _ ?side1 ?side2 A43.out).mono ?_
                                          (case side1 => repeat (first | exact (Kd.R_reads' HO454.out).2.2 | (with_reducible refine Kd.C_alloc ?_ _) | (with_reducible refine Kd.C_drewN ?_ _) | (with_reducible refine Kd.C_drew ?_)))
                                          (case side2 => exact (Kd.R_reads' HO454.out).2.1)
                                          rintro e w50 ⟨rfl, hb⟩
                                          refine ⟨_, rfl, ?_⟩
                                          have n0_ := Aside0.mk (Kd.R_below (by (with_reducible repeat (first | apply Kd.R_alloc | apply Kd.R_drewN | apply Kd.R_drew)); exact HO454.out) hb)
                                          have n1_ := Aside0.mk (below_step (by repeat (first | (with_reducible first | exact HB.out | apply below_alloc | apply pw_below_drewN | apply below_drew1) | exact HB.out)) hb)
                                          clear HO454
                                          clear HB
                                          have HO454 := n0_
                                          have HB := n1_
                                          clear n0_ n1_
                                          (try clear hb)
                                          (try clear hb2)
                                          (try clear hk)
                                          (try clear hi)
                                          refine hK.out _ _ ⟨((HB.out.cell (World.block_lt_of_cell? w _ hw449_0)).trans hw449_0), ((HB.out.cell (World.block_lt_of_cell? w _ hw449_1)).trans hw449_1), ((HB.out.cell (World.block_lt_of_cell? w _ hw449_2)).trans hw449_2), ((HB.out.cell (World.block_lt_of_cell? w _ hw450_0)).trans hw450_0), ((HB.out.cell (World.block_lt_of_cell? w _ hw450_1)).trans hw450_1), ((HB.out.cell (World.block_lt_of_cell? w _ hw450_2)).trans hw450_2), ((HB.out.cell (World.block_lt_of_cell? w _ hw451_0)).trans hw451_0), ((HB.out.cell (World.block_lt_of_cell? w _ hw451_1)).trans hw451_1), ((HB.out.cell (World.block_lt_of_cell? w _ hw451_2)).trans hw451_2)⟩ (fun hHeld => ?_)
                                          clear hK K
                                          refine norm_ (a' := ?_) ?_ ?_
                                          rotate_left
                                          · show Act.put _ (some 155) _ = _
                                            simp only [Act.put, List.setIfInBounds_toArray, List.set_cons_zero, List.set_cons_succ, i64_w, i32_w]
                                            rfl
                                          refine pure_ (i := 23) (N := some 132) (v := ?_) (a' := ?_) #[true, true, true, true, true, true, true, true, true, true, true, true, true, true, true, true, true, true, true, true, true, true, true, true, false, false, false, false] rfl rfl (any_of HT_.out (by kernel_rfl)) (fun _ _ _ h => h) (Or.inl ⟨by rfl, ?_⟩) ?_ ?_
                                          rotate_left
                                          · intro w'
                                            go_simp
                                            with_reducible rfl
                                          rotate_left
                                          · simp only [Act.put, List.setIfInBounds_toArray, List.set_cons_zero, List.set_cons_succ, i64_w, i32_w]
                                            rfl
                                          refine pure_ (i := 24) (N := some 156) (v := ?_) (a' := ?_) #[true, true, true, true, true, true, true, true, true, true, true, true, true, true, true, true, true, true, true, true, true, true, true, true, true, false, false, false] rfl rfl (any_of HT_.out (by kernel_rfl)) (fun _ _ _ h => h) (Or.inl ⟨by rfl, ?_⟩) ?_ ?_
                                          rotate_left
                                          · intro w'
                                            go_simp
                                            with_reducible rfl
                                          rotate_left
                                          · simp only [Act.put, List.setIfInBounds_toArray, List.set_cons_zero, List.set_cons_succ, i64_w, i32_w]
                                            rfl
                                          refine pure_ (i := 25) (N := some 157) (v := ?_) (a' := ?_) #[true, true, true, true, true, true, true, true, true, true, true, true, true, true, true, true, true, true, true, true, true, true, true, true, true, true, false, false] rfl rfl (any_of HT_.out (by kernel_rfl)) (fun _ _ _ h => h) (Or.inl ⟨by rfl, ?_⟩) ?_ ?_
                                          rotate_left
                                          · intro w'
                                            go_simp
                                            with_reducible rfl
                                          rotate_left
                                          · simp only [Act.put, List.setIfInBounds_toArray, List.set_cons_zero, List.set_cons_succ, i64_w, i32_w]
                                            rfl
                                          refine pure_ (i := 26) (N := some 15) (v := ?_) (a' := ?_) #[true, true, true, true, true, true, true, true, true, true, true, true, true, true, true, true, true, true, true, true, true, true, true, true, true, true, true, false] rfl rfl (any_of HT_.out (by kernel_rfl)) (fun _ _ _ h => h) (Or.inl ⟨by rfl, ?_⟩) ?_ ?_
                                          rotate_left
                                          · intro w'
                                            go_simp
                                            with_reducible rfl
                                          rotate_left
                                          · simp only [Act.put, List.setIfInBounds_toArray, List.set_cons_zero, List.set_cons_succ, i64_w, i32_w]
                                            rfl
                                          refine pure_ (i := 27) (N := some 13) (v := ?_) (a' := ?_) #[true, true, true, true, true, true, true, true, true, true, true, true, true, true, true, true, true, true, true, true, true, true, true, true, true, true, true, true] rfl rfl (any_of HT_.out (by kernel_rfl)) (fun _ _ _ h => h) (Or.inl ⟨by rfl, ?_⟩) ?_ ?_
                                          rotate_left
                                          · intro w'
                                            go_simp
                                            with_reducible rfl
                                          rotate_left
                                          · simp only [Act.put, List.setIfInBounds_toArray, List.set_cons_zero, List.set_cons_succ, i64_w, i32_w]
                                            rfl
                                          refine done_ (done_of HT_.out (by kernel_rfl)) ?_
                                          try go_wp2
                                          go_roundg k5
                                          case measure => have := HJ5.out; have := HJ15.out; have := HJ22.out; have := HJ31.out; have := HK5.out; omega
                                          case rel => exact ⟨(t455), (wrap64 (x17_5 - 1)), (by first | rfl | (simp; done) | (simp [*]; done)), (by first | rfl | (simp; done) | (simp [*]; done)), H', ⟨by have := HJ5.out; have := HJ15.out; have := HJ22.out; have := HJ31.out; have := HK5.out; omega⟩, ⟨by repeat (first | (with_reducible first | exact HB.out | apply below_alloc | apply pw_below_drewN | apply below_drew1) | exact HB.out)⟩⟩
                                        · rw [if_neg c44] at H
                                          have c44b0 : (t456 == 0) = false := beq_eq_false_iff_ne.mpr c44
                                          have c44b1 : (t456 != 0) = true := bne_iff_ne.mpr c44
                                          obtain rfl := Option.some.inj H
                                          have p446 : 0 ≤ (x17_5 : Int) := of_decide_eq_true (by first | (with_reducible assumption) | assumption)
                                          have q446 : x17_5 < (l2.length : Int) := of_decide_eq_true (by first | (with_reducible assumption) | assumption)
                                          obtain ⟨ad446, e446, hx446_0, hx446_1, hx446_2⟩ := at_T42 HR2.out x17_5 p446 q446
                                          cases e446
                                          replace hx446_0 := (HB.out.cell (World.block_lt_of_cell? w _ hx446_0)).trans hx446_0
                                          replace hx446_1 := (HB.out.cell (World.block_lt_of_cell? w _ hx446_1)).trans hx446_1
                                          replace hx446_2 := (HB.out.cell (World.block_lt_of_cell? w _ hx446_2)).trans hx446_2
                                          replace p446 := eq_true p446
                                          replace q446 := eq_true q446
                                          try go_wp2_with (first | ((with_reducible refine gate_callee (f := 22) rfl ?_); refine goesL_ (some 127) rfl rfl Try.func22 (by kernel_rfl) rfl #[.slice A1 l1.length c1, .int .i64 ((rd_T42 l2 x17_5).f0)] rfl (by (try simp only [List.map_toArray, List.map_cons, List.map_nil]); first | done | rfl | (simp only [List.length_drop, List.length_take]; rfl)) ?_; (with_reducible refine (edits_Shift.calls k5 _ _ l1 ((rd_T42 l2 x17_5).f0) t447 true _ ?side1 ?side2 A41.out).mono ?_); (case side1 => repeat (first | exact (Kd.C_below HR1.out HB.out) | (with_reducible refine Kd.C_alloc ?_ _) | (with_reducible refine Kd.C_drewN ?_ _) | (with_reducible refine Kd.C_drew ?_))); (case side2 => exact HC1.out); rintro e w51 ⟨rfl, hb⟩; refine ⟨_, rfl, ?_⟩; have n0_ := Aside0.mk (below_step (by repeat (first | (with_reducible first | exact HB.out | apply below_alloc | apply pw_below_drewN | apply below_drew1) | exact HB.out)) hb); clear HB; have HB := n0_; clear n0_; (try clear hb); (try clear hb2); (try clear hk); (try clear hi)))
                                          have n0_ := Aside0.mk (below_drew1 HB.out)
                                          clear HB
                                          have HB := n0_
                                          clear n0_
                                          have p449 : 0 ≤ (x17_5 : Int) := of_decide_eq_true (by first | (with_reducible assumption) | assumption)
                                          have q449 : x17_5 < (l2.length : Int) := of_decide_eq_true (by first | (with_reducible assumption) | assumption)
                                          obtain ⟨ad449, e449, hx449_0, hx449_1, hx449_2⟩ := at_T42 HR2.out x17_5 p449 q449
                                          have hw449_2 := hx449_2
                                          have hw449_1 := hx449_1
                                          have hw449_0 := hx449_0
                                          obtain rfl : ad446 = ad449 := (by injection e449)
                                          replace hx449_0 := (HB.out.cell (World.block_lt_of_cell? w _ hx449_0)).trans hx449_0
                                          replace hx449_1 := (HB.out.cell (World.block_lt_of_cell? w _ hx449_1)).trans hx449_1
                                          replace hx449_2 := (HB.out.cell (World.block_lt_of_cell? w _ hx449_2)).trans hx449_2
                                          replace p449 := eq_true p449
                                          replace q449 := eq_true q449
                                          have p450 : 0 ≤ (x17_5 : Int) := of_decide_eq_true (by first | (with_reducible assumption) | assumption)
                                          have q450 : x17_5 < (l2.length : Int) := of_decide_eq_true (by first | (with_reducible assumption) | assumption)
                                          obtain ⟨ad450, e450, hx450_0, hx450_1, hx450_2⟩ := at_T42 HR2.out x17_5 p450 q450
                                          have hw450_2 := hx450_2
                                          have hw450_1 := hx450_1
                                          have hw450_0 := hx450_0
                                          obtain rfl : ad446 = ad450 := (by injection e450)
                                          replace hx450_0 := (HB.out.cell (World.block_lt_of_cell? w _ hx450_0)).trans hx450_0
                                          replace hx450_1 := (HB.out.cell (World.block_lt_of_cell? w _ hx450_1)).trans hx450_1
                                          replace hx450_2 := (HB.out.cell (World.block_lt_of_cell? w _ hx450_2)).trans hx450_2
                                          replace p450 := eq_true p450
                                          replace q450 := eq_true q450
                                          have p451 : 0 ≤ (x17_5 : Int) := of_decide_eq_true (by first | (with_reducible assumption) | assumption)
                                          have q451 : x17_5 < (l2.length : Int) := of_decide_eq_true (by first | (with_reducible assumption) | assumption)
                                          obtain ⟨ad451, e451, hx451_0, hx451_1, hx451_2⟩ := at_T42 HR2.out x17_5 p451 q451
                                          have hw451_2 := hx451_2
                                          have hw451_1 := hx451_1
                                          have hw451_0 := hx451_0
                                          obtain rfl : ad446 = ad451 := (by injection e451)
                                          replace hx451_0 := (HB.out.cell (World.block_lt_of_cell? w _ hx451_0)).trans hx451_0
                                          replace hx451_1 := (HB.out.cell (World.block_lt_of_cell? w _ hx451_1)).trans hx451_1
                                          replace hx451_2 := (HB.out.cell (World.block_lt_of_cell? w _ hx451_2)).trans hx451_2
                                          replace p451 := eq_true p451
                                          replace q451 := eq_true q451
                                          refine start_ (n := 28) (S := fun w' => w'.cell? (ad446.add ((x17_5).toNat * 3)) = some (.int .i64 ((rd_T42 l2 x17_5).f0)) ∧ w'.cell? ⟨(ad446.add ((x17_5).toNat * 3)).block, (ad446.add ((x17_5).toNat * 3)).off + 1, none⟩ = some (.int .i64 ((rd_T42 l2 x17_5).f1)) ∧ w'.cell? ⟨(ad446.add ((x17_5).toNat * 3)).block, (ad446.add ((x17_5).toNat * 3)).off + 2, none⟩ = some (.string ((rd_T42 l2 x17_5).f2)) ∧ w'.cell? (ad446.add ((x17_5).toNat * 3)) = some (.int .i64 ((rd_T42 l2 x17_5).f0)) ∧ w'.cell? ⟨(ad446.add ((x17_5).toNat * 3)).block, (ad446.add ((x17_5).toNat * 3)).off + 1, none⟩ = some (.int .i64 ((rd_T42 l2 x17_5).f1)) ∧ w'.cell? ⟨(ad446.add ((x17_5).toNat * 3)).block, (ad446.add ((x17_5).toNat * 3)).off + 2, none⟩ = some (.string ((rd_T42 l2 x17_5).f2)) ∧ w'.cell? (ad446.add ((x17_5).toNat * 3)) = some (.int .i64 ((rd_T42 l2 x17_5).f0)) ∧ w'.cell? ⟨(ad446.add ((x17_5).toNat * 3)).block, (ad446.add ((x17_5).toNat * 3)).off + 1, none⟩ = some (.int .i64 ((rd_T42 l2 x17_5).f1)) ∧ w'.cell? ⟨(ad446.add ((x17_5).toNat * 3)).block, (ad446.add ((x17_5).toNat * 3)).off + 2, none⟩ = some (.string ((rd_T42 l2 x17_5).f2))) (ds := []) #[false, false, false, false, false, false, false, false, false, false, false, false, false, false, false, false, false, false, false, false, false, false, false, false, false, false, false, false] (by kernel_rfl) rfl rfl ⟨((HB.out.cell (World.block_lt_of_cell? w _ hw449_0)).trans hw449_0), ((HB.out.cell (World.block_lt_of_cell? w _ hw449_1)).trans hw449_1), ((HB.out.cell (World.block_lt_of_cell? w _ hw449_2)).trans hw449_2), ((HB.out.cell (World.block_lt_of_cell? w _ hw450_0)).trans hw450_0), ((HB.out.cell (World.block_lt_of_cell? w _ hw450_1)).trans hw450_1), ((HB.out.cell (World.block_lt_of_cell? w _ hw450_2)).trans hw450_2), ((HB.out.cell (World.block_lt_of_cell? w _ hw451_0)).trans hw451_0), ((HB.out.cell (World.block_lt_of_cell? w _ hw451_1)).trans hw451_1), ((HB.out.cell (World.block_lt_of_cell? w _ hw451_2)).trans hw451_2)⟩ (fun hHeld => ?_); refine with_tabW monikerlaw1_EditsBoth.tab23 monikerlaw1_EditsBoth.bits23 (fun HT_ HW_ => ?_)
                                          generalize w51.drew = w52 at HB hx449_0 hx449_1 hx449_2 hx450_0 hx450_1 hx450_2 hx451_0 hx451_1 hx451_2 hHeld ⊢
                                          refine pure_ (i := 0) (N := some 133) (v := ?_) (a' := ?_) #[true, false, false, false, false, false, false, false, false, false, false, false, false, false, false, false, false, false, false, false, false, false, false, false, false, false, false, false] rfl rfl (any_of HT_.out (by kernel_rfl)) (fun _ _ _ h => h) (Or.inl ⟨by rfl, ?_⟩) ?_ ?_
                                          rotate_left
                                          · intro w'
                                            go_simp
                                            with_reducible rfl
                                          rotate_left
                                          · simp only [Act.put, List.setIfInBounds_toArray, List.set_cons_zero, List.set_cons_succ, i64_w, i32_w]
                                            rfl
                                          refine pure_ (i := 1) (N := some 134) (v := ?_) (a' := ?_) #[true, true, false, false, false, false, false, false, false, false, false, false, false, false, false, false, false, false, false, false, false, false, false, false, false, false, false, false] rfl rfl (any_of HT_.out (by kernel_rfl)) (fun _ _ _ h => h) (Or.inl ⟨by rfl, ?_⟩) ?_ ?_
                                          rotate_left
                                          · intro w'
                                            go_simp
                                            with_reducible rfl
                                          rotate_left
                                          · simp only [Act.put, List.setIfInBounds_toArray, List.set_cons_zero, List.set_cons_succ, i64_w, i32_w]
                                            rfl
                                          refine pure_ (i := 2) (N := some 135) (v := ?_) (a' := ?_) #[true, true, true, false, false, false, false, false, false, false, false, false, false, false, false, false, false, false, false, false, false, false, false, false, false, false, false, false] rfl rfl (any_of HT_.out (by kernel_rfl)) (fun _ _ _ h => h) (Or.inl ⟨by rfl, ?_⟩) ?_ ?_
                                          rotate_left
                                          · intro w'
                                            go_simp
                                            with_reducible rfl
                                          rotate_left
                                          · simp only [Act.put, List.setIfInBounds_toArray, List.set_cons_zero, List.set_cons_succ, i64_w, i32_w]
                                            rfl
                                          refine pure_ (i := 3) (N := some 136) (v := ?_) (a' := ?_) #[true, true, true, true, false, false, false, false, false, false, false, false, false, false, false, false, false, false, false, false, false, false, false, false, false, false, false, false] rfl rfl (any_of HT_.out (by kernel_rfl)) (fun _ _ _ h => h) (Or.inl ⟨by rfl, ?_⟩) ?_ ?_
                                          rotate_left
                                          · intro w'
                                            go_simp
                                            with_reducible rfl
                                          rotate_left
                                          · simp only [Act.put, List.setIfInBounds_toArray, List.set_cons_zero, List.set_cons_succ, i64_w, i32_w]
                                            rfl
                                          refine pure_ (i := 4) (N := some 137) (v := ?_) (a' := ?_) #[true, true, true, true, true, false, false, false, false, false, false, false, false, false, false, false, false, false, false, false, false, false, false, false, false, false, false, false] rfl rfl (any_of HT_.out (by kernel_rfl)) (fun _ _ _ h => h) (Or.inl ⟨by rfl, ?_⟩) ?_ ?_
                                          rotate_left
                                          · intro w'
                                            go_simp
                                            with_reducible rfl
                                          rotate_left
                                          · simp only [Act.put, List.setIfInBounds_toArray, List.set_cons_zero, List.set_cons_succ, i64_w, i32_w]
                                            rfl
                                          refine pure_ (i := 5) (N := some 138) (v := ?_) (a' := ?_) #[true, true, true, true, true, true, false, false, false, false, false, false, false, false, false, false, false, false, false, false, false, false, false, false, false, false, false, false] rfl rfl (any_of HT_.out (by kernel_rfl)) (fun _ _ _ h => h) (Or.inl ⟨by rfl, ?_⟩) ?_ ?_
                                          rotate_left
                                          · intro w'
                                            go_simp
                                            with_reducible rfl
                                          rotate_left
                                          · simp only [Act.put, List.setIfInBounds_toArray, List.set_cons_zero, List.set_cons_succ, i64_w, i32_w]
                                            rfl
                                          refine pure_ (i := 6) (N := some 139) (v := ?_) (a' := ?_) #[true, true, true, true, true, true, true, false, false, false, false, false, false, false, false, false, false, false, false, false, false, false, false, false, false, false, false, false] rfl rfl (any_of HT_.out (by kernel_rfl)) (fun _ _ _ h => h) (Or.inl ⟨by rfl, ?_⟩) ?_ ?_
                                          rotate_left
                                          · intro w'
                                            go_simp
                                            with_reducible rfl
                                          rotate_left
                                          · simp only [Act.put, List.setIfInBounds_toArray, List.set_cons_zero, List.set_cons_succ, i64_w, i32_w]
                                            rfl
                                          refine pure_ (i := 9) (N := some 142) (v := ?_) (a' := ?_) #[true, true, true, true, true, true, true, false, false, true, false, false, false, false, false, false, false, false, false, false, false, false, false, false, false, false, false, false] rfl rfl (any_of HT_.out (by kernel_rfl)) (fun _ _ _ h => h) (Or.inl ⟨by rfl, ?_⟩) ?_ ?_
                                          rotate_left
                                          · intro w'
                                            go_simp
                                            with_reducible rfl
                                          rotate_left
                                          · simp only [Act.put, List.setIfInBounds_toArray, List.set_cons_zero, List.set_cons_succ, i64_w, i32_w]
                                            rfl
                                          refine pure_ (i := 10) (N := some 143) (v := ?_) (a' := ?_) #[true, true, true, true, true, true, true, false, false, true, true, false, false, false, false, false, false, false, false, false, false, false, false, false, false, false, false, false] rfl rfl (any_of HT_.out (by kernel_rfl)) (fun _ _ _ h => h) (Or.inl ⟨by rfl, ?_⟩) ?_ ?_
                                          rotate_left
                                          · intro w'
                                            go_simp
                                            with_reducible rfl
                                          rotate_left
                                          · simp only [Act.put, List.setIfInBounds_toArray, List.set_cons_zero, List.set_cons_succ, i64_w, i32_w]
                                            rfl
                                          refine pure_ (i := 11) (N := some 144) (v := ?_) (a' := ?_) #[true, true, true, true, true, true, true, false, false, true, true, true, false, false, false, false, false, false, false, false, false, false, false, false, false, false, false, false] rfl rfl (any_of HT_.out (by kernel_rfl)) (fun _ _ _ h => h) (Or.inl ⟨by rfl, ?_⟩) ?_ ?_
                                          rotate_left
                                          · intro w'
                                            go_simp
                                            with_reducible rfl
                                          rotate_left
                                          · simp only [Act.put, List.setIfInBounds_toArray, List.set_cons_zero, List.set_cons_succ, i64_w, i32_w]
                                            rfl
                                          refine pure_ (i := 12) (N := some 145) (v := ?_) (a' := ?_) #[true, true, true, true, true, true, true, false, false, true, true, true, true, false, false, false, false, false, false, false, false, false, false, false, false, false, false, false] rfl rfl (any_of HT_.out (by kernel_rfl)) (fun _ _ _ h => h) (Or.inl ⟨by rfl, ?_⟩) ?_ ?_
                                          rotate_left
                                          · intro w'
                                            go_simp
                                            with_reducible rfl
                                          rotate_left
                                          · simp only [Act.put, List.setIfInBounds_toArray, List.set_cons_zero, List.set_cons_succ, i64_w, i32_w]
                                            rfl
                                          refine pure_ (i := 15) (N := some 148) (v := ?_) (a' := ?_) #[true, true, true, true, true, true, true, false, false, true, true, true, true, false, false, true, false, false, false, false, false, false, false, false, false, false, false, false] rfl rfl (any_of HT_.out (by kernel_rfl)) (fun _ _ _ h => h) (Or.inl ⟨by rfl, ?_⟩) ?_ ?_
                                          rotate_left
                                          · intro w'
                                            go_simp
                                            with_reducible rfl
                                          rotate_left
                                          · simp only [Act.put, List.setIfInBounds_toArray, List.set_cons_zero, List.set_cons_succ, i64_w, i32_w]
                                            rfl
                                          refine pure_ (i := 16) (N := some 149) (v := ?_) (a' := ?_) #[true, true, true, true, true, true, true, false, false, true, true, true, true, false, false, true, true, false, false, false, false, false, false, false, false, false, false, false] rfl rfl (any_of HT_.out (by kernel_rfl)) (fun _ _ _ h => h) (Or.inl ⟨by rfl, ?_⟩) ?_ ?_
                                          rotate_left
                                          · intro w'
                                            go_simp
                                            with_reducible rfl
                                          rotate_left
                                          · simp only [Act.put, List.setIfInBounds_toArray, List.set_cons_zero, List.set_cons_succ, i64_w, i32_w]
                                            rfl
                                          refine pure_ (i := 17) (N := some 150) (v := ?_) (a' := ?_) #[true, true, true, true, true, true, true, false, false, true, true, true, true, false, false, true, true, true, false, false, false, false, false, false, false, false, false, false] rfl rfl (any_of HT_.out (by kernel_rfl)) (fun _ _ _ h => h) (Or.inl ⟨by rfl, ?_⟩) ?_ ?_
                                          rotate_left
                                          · intro w'
                                            go_simp
                                            with_reducible rfl
                                          rotate_left
                                          · simp only [Act.put, List.setIfInBounds_toArray, List.set_cons_zero, List.set_cons_succ, i64_w, i32_w]
                                            rfl
                                          refine pure_ (i := 18) (N := some 151) (v := ?_) (a' := ?_) #[true, true, true, true, true, true, true, false, false, true, true, true, true, false, false, true, true, true, true, false, false, false, false, false, false, false, false, false] rfl rfl (any_of HT_.out (by kernel_rfl)) (fun _ _ _ h => h) (Or.inl ⟨by rfl, ?_⟩) ?_ ?_
                                          rotate_left
                                          · intro w'
                                            go_simp
                                            with_reducible rfl
                                          rotate_left
                                          · simp only [Act.put, List.setIfInBounds_toArray, List.set_cons_zero, List.set_cons_succ, i64_w, i32_w]
                                            rfl
                                          refine take_ (i := 7) (N := some 140) (v := ?_) (a' := ?_) #[true, true, true, true, true, true, true, true, false, true, true, true, true, false, false, true, true, true, true, false, false, false, false, false, false, false, false, false] rfl rfl (take_ofW HT_.out HW_.out (by kernel_rfl)) (fun _ _ _ h => h) (Or.inl ⟨by rfl, ?_⟩) hHeld ?_ ?_
                                          rotate_left
                                          · rintro w' ⟨s0, s1, s2, s3, s4, s5, s6, s7, s8⟩
                                            go_simp
                                            with_reducible rfl
                                          rotate_left
                                          · simp only [Act.put, List.setIfInBounds_toArray, List.set_cons_zero, List.set_cons_succ, i64_w, i32_w]
                                            rfl
                                          refine pure_ (i := 8) (N := some 141) (v := ?_) (a' := ?_) #[true, true, true, true, true, true, true, true, true, true, true, true, true, false, false, true, true, true, true, false, false, false, false, false, false, false, false, false] rfl rfl (any_of HT_.out (by kernel_rfl)) (fun _ _ _ h => h) (Or.inl ⟨by rfl, ?_⟩) ?_ ?_
                                          rotate_left
                                          · intro w'
                                            go_simp
                                            with_reducible rfl
                                          rotate_left
                                          · simp only [Act.put, List.setIfInBounds_toArray, List.set_cons_zero, List.set_cons_succ, i64_w, i32_w]
                                            rfl
                                          refine take_ (i := 13) (N := some 146) (v := ?_) (a' := ?_) #[true, true, true, true, true, true, true, true, true, true, true, true, true, true, false, true, true, true, true, false, false, false, false, false, false, false, false, false] rfl rfl (take_ofW HT_.out HW_.out (by kernel_rfl)) (fun _ _ _ h => h) (Or.inl ⟨by rfl, ?_⟩) hHeld ?_ ?_
                                          rotate_left
                                          · rintro w' ⟨s0, s1, s2, s3, s4, s5, s6, s7, s8⟩
                                            go_simp
                                            with_reducible rfl
                                          rotate_left
                                          · simp only [Act.put, List.setIfInBounds_toArray, List.set_cons_zero, List.set_cons_succ, i64_w, i32_w]
                                            rfl
                                          refine pure_ (i := 14) (N := some 147) (v := ?_) (a' := ?_) #[true, true, true, true, true, true, true, true, true, true, true, true, true, true, true, true, true, true, true, false, false, false, false, false, false, false, false, false] rfl rfl (any_of HT_.out (by kernel_rfl)) (fun _ _ _ h => h) (Or.inl ⟨by rfl, ?_⟩) ?_ ?_
                                          rotate_left
                                          · intro w'
                                            go_simp
                                            with_reducible rfl
                                          rotate_left
                                          · simp only [Act.put, List.setIfInBounds_toArray, List.set_cons_zero, List.set_cons_succ, i64_w, i32_w]
                                            rfl
                                          refine take_ (i := 19) (N := some 152) (v := ?_) (a' := ?_) #[true, true, true, true, true, true, true, true, true, true, true, true, true, true, true, true, true, true, true, true, false, false, false, false, false, false, false, false] rfl rfl (take_ofW HT_.out HW_.out (by kernel_rfl)) (fun _ _ _ h => h) (Or.inl ⟨by rfl, ?_⟩) hHeld ?_ ?_
                                          rotate_left
                                          · rintro w' ⟨s0, s1, s2, s3, s4, s5, s6, s7, s8⟩
                                            go_simp
                                            with_reducible rfl
                                          rotate_left
                                          · simp only [Act.put, List.setIfInBounds_toArray, List.set_cons_zero, List.set_cons_succ, i64_w, i32_w]
                                            rfl
                                          refine pure_ (i := 20) (N := some 153) (v := ?_) (a' := ?_) #[true, true, true, true, true, true, true, true, true, true, true, true, true, true, true, true, true, true, true, true, true, false, false, false, false, false, false, false] rfl rfl (any_of HT_.out (by kernel_rfl)) (fun _ _ _ h => h) (Or.inl ⟨by rfl, ?_⟩) ?_ ?_
                                          rotate_left
                                          · intro w'
                                            go_simp
                                            with_reducible rfl
                                          rotate_left
                                          · simp only [Act.put, List.setIfInBounds_toArray, List.set_cons_zero, List.set_cons_succ, i64_w, i32_w]
                                            rfl
                                          refine one_ (i := 21) (N := some 154) #[true, true, true, true, true, true, true, true, true, true, true, true, true, true, true, true, true, true, true, true, true, true, false, false, false, false, false, false] rfl rfl (one_of HT_.out (by kernel_rfl)) (by decide) (fun K hK => ?_)
                                          refine Kd.R_lit_step k42 _ 42 ?hg (N := 154) ?hd (xs := ([(⟨t447, wrap64 ((wrap64 (t447 + ((rd_T42 l2 x17_5).f1))) - ((rd_T42 l2 x17_5).f0)), (rd_T42 l2 x17_5).f2⟩ : S42)] : List (S42))) (inner := [.int .i64 t447, .int .i64 (wrap64 ((wrap64 (t447 + ((rd_T42 l2 x17_5).f1))) - ((rd_T42 l2 x17_5).f0))), .string ((rd_T42 l2 x17_5).f2)]) (ok := fun _ => True) (okp := fun _ => True) ?hr ?hp (fun _ hk => hk) trivial (Below.refl _ _) (Nat.le_refl _) (by simp) ?_; (case hd => rfl); (case hg => rfl); (case hr => first | (go_simp; done) | (go_simp; rfl)); (case hp => exact (Reps.c3 (show Kd.M k42 _ _ _ (⟨t447, wrap64 ((wrap64 (t447 + ((rd_T42 l2 x17_5).f1))) - ((rd_T42 l2 x17_5).f0)), (rd_T42 l2 x17_5).f2⟩ : S42) [.int .i64 t447, .int .i64 (wrap64 ((wrap64 (t447 + ((rd_T42 l2 x17_5).f1))) - ((rd_T42 l2 x17_5).f0))), .string ((rd_T42 l2 x17_5).f2)] from (k42_mkM _ _ _ (⟨t447, wrap64 ((wrap64 (t447 + ((rd_T42 l2 x17_5).f1))) - ((rd_T42 l2 x17_5).f0)), (rd_T42 l2 x17_5).f2⟩ : S42) )) (Reps.none _ _)))
                                          intro v453 w53 ho54 hb hg_ hnew_
                                          clear hg_ hnew_
                                          (first | rw [← Ny452.out] at ho54 | (simp only [Int.reduceToNat] at ho54; rw [← Ny452.out] at ho54))
                                          have n0_ := Aside0.mk (Kd.R_lower ho54 (below_size (by repeat (first | (with_reducible first | exact HB.out | apply below_alloc | apply pw_below_drewN | apply below_drew1) | exact HB.out))))
                                          have n1_ := Aside0.mk (below_step (by repeat (first | (with_reducible first | exact HB.out | apply below_alloc | apply pw_below_drewN | apply below_drew1) | exact HB.out)) hb)
                                          clear HB
                                          have HO454 := n0_
                                          have HB := n1_
                                          clear n0_ n1_
                                          clear hb ho54
                                          obtain ⟨Ao55, co55, eo55⟩ := Kd.R_slice HO454.out
                                          (first | subst eo55 | (injection eo55 with f1_ f2_ f3_; have f4_ := f1_.symm; have f5_ := f3_.symm; clear f1_ f2_ f3_; subst f4_; subst f5_))
                                          refine hK.out _ _ ⟨((HB.out.cell (World.block_lt_of_cell? w _ hw449_0)).trans hw449_0), ((HB.out.cell (World.block_lt_of_cell? w _ hw449_1)).trans hw449_1), ((HB.out.cell (World.block_lt_of_cell? w _ hw449_2)).trans hw449_2), ((HB.out.cell (World.block_lt_of_cell? w _ hw450_0)).trans hw450_0), ((HB.out.cell (World.block_lt_of_cell? w _ hw450_1)).trans hw450_1), ((HB.out.cell (World.block_lt_of_cell? w _ hw450_2)).trans hw450_2), ((HB.out.cell (World.block_lt_of_cell? w _ hw451_0)).trans hw451_0), ((HB.out.cell (World.block_lt_of_cell? w _ hw451_1)).trans hw451_1), ((HB.out.cell (World.block_lt_of_cell? w _ hw451_2)).trans hw451_2)⟩ (fun hHeld => ?_)
                                          clear hK K
                                          refine norm_ (a' := ?_) ?_ ?_
                                          rotate_left
                                          · show Act.put _ (some 154) _ = _
                                            simp only [Act.put, List.setIfInBounds_toArray, List.set_cons_zero, List.set_cons_succ, i64_w, i32_w]
                                            rfl
                                          refine one_ (i := 22) (N := some 155) #[true, true, true, true, true, true, true, true, true, true, true, true, true, true, true, true, true, true, true, true, true, true, true, false, false, false, false, false] rfl rfl (one_of HT_.out (by kernel_rfl)) (by decide) (fun K hK => ?_)
                                          refine goes_ Try.func24 (by kernel_rfl) rfl #[.string x15_5, .slice Ao55 y452.length co55] (by rfl) rfl rfl (by (try simp only [List.map_toArray, List.map_cons, List.map_nil]); first | done | rfl | (simp only [List.length_drop, List.length_take]; rfl)) ?_
                                          with_reducible refine (edits_Apply.calls k5 x15_5 _ _ y452 t455 t456 _ ?side1 ?side2 A43.out).mono ?_
                                          (case side1 => repeat (first | exact (Kd.R_reads' HO454.out).2.2 | (with_reducible refine Kd.C_alloc ?_ _) | (with_reducible refine Kd.C_drewN ?_ _) | (with_reducible refine Kd.C_drew ?_)))
                                          (case side2 => exact (Kd.R_reads' HO454.out).2.1)
                                          rintro e w56 ⟨rfl, hb⟩
                                          refine ⟨_, rfl, ?_⟩
                                          have n0_ := Aside0.mk (Kd.R_below (by (with_reducible repeat (first | apply Kd.R_alloc | apply Kd.R_drewN | apply Kd.R_drew)); exact HO454.out) hb)
                                          have n1_ := Aside0.mk (below_step (by repeat (first | (with_reducible first | exact HB.out | apply below_alloc | apply pw_below_drewN | apply below_drew1) | exact HB.out)) hb)
                                          clear HO454
                                          clear HB
                                          have HO454 := n0_
                                          have HB := n1_
                                          clear n0_ n1_
                                          (try clear hb)
                                          (try clear hb2)
                                          (try clear hk)
                                          (try clear hi)
                                          refine hK.out _ _ ⟨((HB.out.cell (World.block_lt_of_cell? w _ hw449_0)).trans hw449_0), ((HB.out.cell (World.block_lt_of_cell? w _ hw449_1)).trans hw449_1), ((HB.out.cell (World.block_lt_of_cell? w _ hw449_2)).trans hw449_2), ((HB.out.cell (World.block_lt_of_cell? w _ hw450_0)).trans hw450_0), ((HB.out.cell (World.block_lt_of_cell? w _ hw450_1)).trans hw450_1), ((HB.out.cell (World.block_lt_of_cell? w _ hw450_2)).trans hw450_2), ((HB.out.cell (World.block_lt_of_cell? w _ hw451_0)).trans hw451_0), ((HB.out.cell (World.block_lt_of_cell? w _ hw451_1)).trans hw451_1), ((HB.out.cell (World.block_lt_of_cell? w _ hw451_2)).trans hw451_2)⟩ (fun hHeld => ?_)
                                          clear hK K
                                          refine norm_ (a' := ?_) ?_ ?_
                                          rotate_left
                                          · show Act.put _ (some 155) _ = _
                                            simp only [Act.put, List.setIfInBounds_toArray, List.set_cons_zero, List.set_cons_succ, i64_w, i32_w]
                                            rfl
                                          refine pure_ (i := 23) (N := some 132) (v := ?_) (a' := ?_) #[true, true, true, true, true, true, true, true, true, true, true, true, true, true, true, true, true, true, true, true, true, true, true, true, false, false, false, false] rfl rfl (any_of HT_.out (by kernel_rfl)) (fun _ _ _ h => h) (Or.inl ⟨by rfl, ?_⟩) ?_ ?_
                                          rotate_left
                                          · intro w'
                                            go_simp
                                            with_reducible rfl
                                          rotate_left
                                          · simp only [Act.put, List.setIfInBounds_toArray, List.set_cons_zero, List.set_cons_succ, i64_w, i32_w]
                                            rfl
                                          refine pure_ (i := 24) (N := some 156) (v := ?_) (a' := ?_) #[true, true, true, true, true, true, true, true, true, true, true, true, true, true, true, true, true, true, true, true, true, true, true, true, true, false, false, false] rfl rfl (any_of HT_.out (by kernel_rfl)) (fun _ _ _ h => h) (Or.inl ⟨by rfl, ?_⟩) ?_ ?_
                                          rotate_left
                                          · intro w'
                                            go_simp
                                            with_reducible rfl
                                          rotate_left
                                          · simp only [Act.put, List.setIfInBounds_toArray, List.set_cons_zero, List.set_cons_succ, i64_w, i32_w]
                                            rfl
                                          refine pure_ (i := 25) (N := some 157) (v := ?_) (a' := ?_) #[true, true, true, true, true, true, true, true, true, true, true, true, true, true, true, true, true, true, true, true, true, true, true, true, true, true, false, false] rfl rfl (any_of HT_.out (by kernel_rfl)) (fun _ _ _ h => h) (Or.inl ⟨by rfl, ?_⟩) ?_ ?_
                                          rotate_left
                                          · intro w'
                                            go_simp
                                            with_reducible rfl
                                          rotate_left
                                          · simp only [Act.put, List.setIfInBounds_toArray, List.set_cons_zero, List.set_cons_succ, i64_w, i32_w]
                                            rfl
                                          refine pure_ (i := 26) (N := some 15) (v := ?_) (a' := ?_) #[true, true, true, true, true, true, true, true, true, true, true, true, true, true, true, true, true, true, true, true, true, true, true, true, true, true, true, false] rfl rfl (any_of HT_.out (by kernel_rfl)) (fun _ _ _ h => h) (Or.inl ⟨by rfl, ?_⟩) ?_ ?_
                                          rotate_left
                                          · intro w'
                                            go_simp
                                            with_reducible rfl
                                          rotate_left
                                          · simp only [Act.put, List.setIfInBounds_toArray, List.set_cons_zero, List.set_cons_succ, i64_w, i32_w]
                                            rfl
                                          refine pure_ (i := 27) (N := some 13) (v := ?_) (a' := ?_) #[true, true, true, true, true, true, true, true, true, true, true, true, true, true, true, true, true, true, true, true, true, true, true, true, true, true, true, true] rfl rfl (any_of HT_.out (by kernel_rfl)) (fun _ _ _ h => h) (Or.inl ⟨by rfl, ?_⟩) ?_ ?_
                                          rotate_left
                                          · intro w'
                                            go_simp
                                            with_reducible rfl
                                          rotate_left
                                          · simp only [Act.put, List.setIfInBounds_toArray, List.set_cons_zero, List.set_cons_succ, i64_w, i32_w]
                                            rfl
                                          refine done_ (done_of HT_.out (by kernel_rfl)) ?_
                                          try go_wp2
                                          go_ret
                                          exact ⟨by first | rfl | (simp [errW_none, errW_some] <;> rfl) | (simp [*, errW_none, errW_some] <;> rfl), by repeat (first | (with_reducible first | exact HB.out | apply below_alloc | apply pw_below_drewN | apply below_drew1) | exact HB.out)⟩
                                      · replace c42 := Bool.eq_false_iff.mpr c42
                                        subst c42
                                        have H1 : (some false) = some r := by rw [if_neg (show ¬ (false = true) by decide)] at H; exact H
                                        clear H
                                        have H := H1
                                        clear H1
                                        obtain rfl := Option.some.inj H
                                        have p446 : 0 ≤ (x17_5 : Int) := of_decide_eq_true (by first | (with_reducible assumption) | assumption)
                                        have q446 : x17_5 < (l2.length : Int) := of_decide_eq_true (by first | (with_reducible assumption) | assumption)
                                        obtain ⟨ad446, e446, hx446_0, hx446_1, hx446_2⟩ := at_T42 HR2.out x17_5 p446 q446
                                        cases e446
                                        replace hx446_0 := (HB.out.cell (World.block_lt_of_cell? w _ hx446_0)).trans hx446_0
                                        replace hx446_1 := (HB.out.cell (World.block_lt_of_cell? w _ hx446_1)).trans hx446_1
                                        replace hx446_2 := (HB.out.cell (World.block_lt_of_cell? w _ hx446_2)).trans hx446_2
                                        replace p446 := eq_true p446
                                        replace q446 := eq_true q446
                                        go_wp2_with (first | ((with_reducible refine gate_callee (f := 22) rfl ?_); refine goesL_ (some 127) rfl rfl Try.func22 (by kernel_rfl) rfl #[.slice A1 l1.length c1, .int .i64 ((rd_T42 l2 x17_5).f0)] rfl (by (try simp only [List.map_toArray, List.map_cons, List.map_nil]); first | done | rfl | (simp only [List.length_drop, List.length_take]; rfl)) ?_; (with_reducible refine (edits_Shift.calls k5 _ _ l1 ((rd_T42 l2 x17_5).f0) t447 false _ ?side1 ?side2 A41.out).mono ?_); (case side1 => repeat (first | exact (Kd.C_below HR1.out HB.out) | (with_reducible refine Kd.C_alloc ?_ _) | (with_reducible refine Kd.C_drewN ?_ _) | (with_reducible refine Kd.C_drew ?_))); (case side2 => exact HC1.out); rintro e w57 ⟨rfl, hb⟩; refine ⟨_, rfl, ?_⟩; have n0_ := Aside0.mk (below_step (by repeat (first | (with_reducible first | exact HB.out | apply below_alloc | apply pw_below_drewN | apply below_drew1) | exact HB.out)) hb); clear HB; have HB := n0_; clear n0_; (try clear hb); (try clear hb2); (try clear hk); (try clear hi)))
                                        go_ret
                                        exact ⟨by first | rfl | (simp [errW_none, errW_some] <;> rfl) | (simp [*, errW_none, errW_some] <;> rfl), by repeat (first | (with_reducible first | exact HB.out | apply below_alloc | apply pw_below_drewN | apply below_drew1) | exact HB.out)⟩
                                    · rw [if_neg c40] at H
                                      exact absurd H (by simp)
                                  · rw [if_neg c39] at H
                                    exact absurd H (by simp)
                                · rw [if_neg c38] at H
                                  have c38b0 : decide (0 ≤ x17_5) = false := decide_eq_false c38
                                  clear c38
                                  obtain rfl := Option.some.inj H
                                  go_wp2
                                  go_ret
                                  exact ⟨by first | rfl | (simp [errW_none, errW_some] <;> rfl) | (simp [*, errW_none, errW_some] <;> rfl), by repeat (first | (with_reducible first | exact HB.out | apply below_alloc | apply pw_below_drewN | apply below_drew1) | exact HB.out)⟩
                    · rw [if_neg c29] at H
                      have c29b0 : (t427 == 0) = false := beq_eq_false_iff_ne.mpr c29
                      have c29b1 : (t427 != 0) = true := bne_iff_ne.mpr c29
                      obtain rfl := Option.some.inj H
                      obtain ⟨Ao58, co58, eo58⟩ := Kd.R_slice HO_7.out
                      subst eo58
                      go_wp2
                      go_ret
                      exact ⟨by first | rfl | (simp [errW_none, errW_some] <;> rfl) | (simp [*, errW_none, errW_some] <;> rfl), by repeat (first | (with_reducible first | exact HB.out | apply below_alloc | apply pw_below_drewN | apply below_drew1) | exact HB.out)⟩
      · replace c15 := Bool.eq_false_iff.mpr c15
        subst c15
        have H1 : (if t427 = 0 then (some false) else (if t431 = 0 then (some false) else (if (t426.length : Int) = 0 then (some ((t430.length : Int) == 0)) else (some false)))) = some r := by rw [if_neg (show ¬ (false = true) by decide)] at H; exact H
        clear H
        have H := H1
        clear H1
        by_cases c59 : t427 = 0
        · rw [if_pos c59] at H
          have c59b0 : (t427 == 0) = true := beq_iff_eq.mpr c59
          have c59b1 : (t427 != 0) = false := bne_eq_false_iff_eq.mpr c59
          clear c59
          obtain rfl := Option.some.inj H
          go_wp2
          go_ret
          exact ⟨by first | rfl | (simp [errW_none, errW_some] <;> rfl) | (simp [*, errW_none, errW_some] <;> rfl), by repeat (first | (with_reducible first | exact HB.out | apply below_alloc | apply pw_below_drewN | apply below_drew1) | exact HB.out)⟩
        · rw [if_neg c59] at H
          have c59b0 : (t427 == 0) = false := beq_eq_false_iff_ne.mpr c59
          have c59b1 : (t427 != 0) = true := bne_iff_ne.mpr c59
          by_cases c60 : t431 = 0
          · rw [if_pos c60] at H
            have c60b0 : (t431 == 0) = true := beq_iff_eq.mpr c60
            have c60b1 : (t431 != 0) = false := bne_eq_false_iff_eq.mpr c60
            clear c60
            obtain rfl := Option.some.inj H
            go_wp2
            go_ret
            exact ⟨by first | rfl | (simp [errW_none, errW_some] <;> rfl) | (simp [*, errW_none, errW_some] <;> rfl), by repeat (first | (with_reducible first | exact HB.out | apply below_alloc | apply pw_below_drewN | apply below_drew1) | exact HB.out)⟩
          · rw [if_neg c60] at H
            have c60b0 : (t431 == 0) = false := beq_eq_false_iff_ne.mpr c60
            have c60b1 : (t431 != 0) = true := bne_iff_ne.mpr c60
            by_cases c61 : (t426.length : Int) = 0
            · rw [if_pos c61] at H
              have c61b0 : ((t426.length : Int) == 0) = true := beq_iff_eq.mpr c61
              have c61b1 : ((t426.length : Int) != 0) = false := bne_eq_false_iff_eq.mpr c61
              clear c61
              obtain rfl := Option.some.inj H
              obtain ⟨Ao62, co62, eo62⟩ := Kd.R_slice HO_7.out
              subst eo62
              obtain ⟨Ao63, co63, eo63⟩ := Kd.R_slice HO_9.out
              subst eo63
              go_wp2
              go_ret
              exact ⟨by first | rfl | (simp [errW_none, errW_some] <;> rfl) | (simp [*, errW_none, errW_some] <;> rfl), by repeat (first | (with_reducible first | exact HB.out | apply below_alloc | apply pw_below_drewN | apply below_drew1) | exact HB.out)⟩
            · rw [if_neg c61] at H
              have c61b0 : ((t426.length : Int) == 0) = false := beq_eq_false_iff_ne.mpr c61
              have c61b1 : ((t426.length : Int) != 0) = true := bne_iff_ne.mpr c61
              have c61b2 : ¬ (t426 = []) := fun h_ => c61 (by rw [h_]; rfl)
              obtain rfl := Option.some.inj H
              obtain ⟨Ao64, co64, eo64⟩ := Kd.R_slice HO_7.out
              subst eo64
              go_wp2
              go_ret
              exact ⟨by first | rfl | (simp [errW_none, errW_some] <;> rfl) | (simp [*, errW_none, errW_some] <;> rfl), by repeat (first | (with_reducible first | exact HB.out | apply below_alloc | apply pw_below_drewN | apply below_drew1) | exact HB.out)⟩

end Go.Proofs.Ytaihajmdngoeiaa.F

namespace Go.Proofs.Ytaihajmdngoeiaa.Q
open Go.RowKit Go.Proofs.YtaihajmdngoeiaaW.PrintWords Go.Proofs.YtaihajmdngoeiaaW.PrintLast Go.Proofs.YtaihajmdngoeiaaW.PrintMore
open Go.Proofs.Ytaihajmdngoeiaa.F

/-- A valid list of edits, the last one's end known. -/
def Chain (size : Int) : Option Int → List S42 → Prop
  | _, [] => True
  | p, e :: t => 0 ≤ e.f0 ∧ e.f0 ≤ e.f1 ∧ e.f1 ≤ size ∧ (∀ q, p = some q → q < e.f0) ∧ Chain size (some e.f1) t
theorem chain_of (size : Int) : ∀ (l : List S42) (p : Option Int), vgo size p l = 0 → Chain size p l
  | [], _, _ => trivial
  | e :: t, none, h => by
    simp only [vgo] at h
    split at h
    · simp at h
    · rename_i hb
      exact ⟨by omega, by omega, by omega, (fun q hq => by cases hq), chain_of size t _ h⟩
  | e :: t, some q, h => by
    simp only [vgo] at h
    split at h
    · simp at h
    · rename_i hb
      split at h
      · simp at h
      · rename_i hq
        exact ⟨by omega, by omega, by omega, (fun q2 hq2 => by cases hq2; omega), chain_of size t _ h⟩
theorem vgo_of_chain (size : Int) : ∀ (l : List S42) (p : Option Int), Chain size p l → vgo size p l = 0
  | [], p, _ => by cases p <;> rfl
  | e :: t, none, ⟨h1, h2, h3, _, h5⟩ => by
    simp only [vgo]
    rw [if_neg (by omega)]
    exact vgo_of_chain size t _ h5
  | e :: t, some q, ⟨h1, h2, h3, h4, h5⟩ => by
    have := h4 q rfl
    simp only [vgo]
    rw [if_neg (by omega), if_neg (by omega)]
    exact vgo_of_chain size t _ h5
theorem vspec_zero {size : Int} {l : List S42} (h : vspec size l = 0) : l.length ≤ 65536 ∧ Chain size none l := by
  unfold vspec at h
  split at h
  · simp at h
  · exact ⟨by omega, chain_of size l none h⟩
theorem vspec_of {size : Int} {l : List S42} (h : l.length ≤ 65536) (hc : Chain size none l) : vspec size l = 0 := by
  unfold vspec
  rw [if_neg (by omega)]
  exact vgo_of_chain size l none hc

def growsOf (e : S42) : Int := wrap64 ((e.f2.size : Int) - wrap64 (e.f1 - e.f0))
theorem grows_is (e : S42) : edits_grows.f e.f0 e.f1 e.f2 = some (growsOf e) := rfl

def shGo (at_ : Int) : Int → List S42 → Int × Bool
  | n, [] => (n, true)
  | n, e :: t => if e.f1 > at_ then (if e.f0 < at_ then (0, false) else (n, true)) else shGo at_ (wrap64 (n + growsOf e)) t
def Shspec (l : List S42) (at_ : Int) : Int × Bool := if at_ < 0 then (0, false) else if at_ > 4611686018427387904 then (0, false) else if vspec 4611686018427387904 l ≠ 0 then (0, false) else shGo at_ at_ l

theorem sh_loop (at_ : Int) (l : List S42) (hl : l.length ≤ 65536) (d : Nat) : ∀ i n, i ≤ l.length → l.length - i = d →
    Ev (fun k => edits_Shift.l0 k at_ n l (l.length : Int) (i : Int)) (shGo at_ n (l.drop i)) := by
  induction d with
  | zero =>
    intro i n h1 h2
    refine ⟨1, fun m hm => ?_⟩
    obtain ⟨k, rfl⟩ : ∃ j, m = j + 1 := ⟨m - 1, by omega⟩
    simp only [edits_Shift.l0]
    rw [if_neg (by omega), List.drop_eq_nil_of_le (by omega)]
    rfl
  | succ d ih =>
    intro i n h1 h2
    have hi : i < l.length := by omega
    obtain ⟨K, hK⟩ := ih (i + 1) (wrap64 (n + growsOf l[i])) (by omega) (by omega)
    refine ⟨K + 1, fun m hm => ?_⟩
    obtain ⟨k, rfl⟩ : ∃ j, m = j + 1 := ⟨m - 1, by omega⟩
    have hgo := hK k (by omega)
    simp only [edits_Shift.l0]
    rw [rd_at l i hi, if_pos (by omega), if_pos (by omega), if_pos (by omega), List.drop_eq_getElem_cons hi]
    simp only [shGo, grows_is, Option.bind_some]
    by_cases c : (l[i]).f1 > at_
    · rw [if_pos c, if_pos c]
      split <;> rfl
    · rw [if_neg c, if_neg c, show wrap64 ((i : Int) + 1) = ((i + 1 : Nat) : Int) by rw [w64] <;> omega]
      exact hgo
theorem Shift_is (l : List S42) (at_ : Int) : Ev (fun k => edits_Shift.f k l at_) (Shspec l at_) := by
  unfold edits_Shift.f Shspec
  have hbad : Ev (fun k => edits_Shift.j0 k l at_ true) (0, false) := ⟨1, fun m hm => by
    obtain ⟨k, rfl⟩ : ∃ j, m = j + 1 := ⟨m - 1, by omega⟩
    simp only [edits_Shift.j0]; rfl⟩
  by_cases h : at_ < 0
  · simp only [if_pos h]; exact hbad
  · simp only [if_neg h]
    by_cases h' : at_ > 4611686018427387904
    · simp only [if_pos h']; exact hbad
    · simp only [if_neg h']
      refine (valid_is _ l).bind ?_
      by_cases hv : vspec 4611686018427387904 l = 0
      · rw [if_neg (by simpa using hv)]
        have hl := (vspec_zero hv).1
        obtain ⟨K, hK⟩ := sh_loop at_ l hl l.length 0 at_ (by omega) (by omega)
        refine ⟨K + 1, fun m hm => ?_⟩
        obtain ⟨k, rfl⟩ : ∃ j, m = j + 1 := ⟨m - 1, by omega⟩
        simp only [edits_Shift.j0]
        rw [if_neg (by simp [hv])]
        exact hK k (by omega)
      · rw [if_pos hv, show (vspec 4611686018427387904 l != 0) = true by simpa using hv]
        exact hbad
end Go.Proofs.Ytaihajmdngoeiaa.Q

namespace Go.Proofs.Ytaihajmdngoeiaa.Q
open Go.RowKit Go.Proofs.YtaihajmdngoeiaaW.PrintWords Go.Proofs.YtaihajmdngoeiaaW.PrintLast Go.Proofs.YtaihajmdngoeiaaW.PrintMore
open Go.Proofs.Ytaihajmdngoeiaa.F

def whole (F : Int) : List S61 := if F = 0 then [] else [⟨true, 0, F, ⟨#[]⟩⟩]
def kp (a b : Int) : List S61 := if a < b then [⟨true, a, b, ⟨#[]⟩⟩] else []
/-- What a list of edits leaves of one run: the kept stretches and the texts. -/
def segs (F : Int) : Int → List S42 → List S61
  | a, [] => kp a F
  | a, e :: t => kp a e.f0 ++ ⟨false, 0, 0, e.f2⟩ :: segs F e.f1 t

def piece (text : ByteArray) (r : S61) : ByteArray := if r.f0 = true then text.extract r.f1.toNat r.f2.toNat else r.f3
def saidB (text : ByteArray) : List S61 → ByteArray
  | [] => ⟨#[]⟩
  | r :: t => piece text r ++ saidB text t
def grow (e : S42) : Int := (e.f2.size : Int) - (e.f1 - e.f0)
def sumG : List S42 → Int
  | [] => 0
  | e :: t => grow e + sumG t
theorem sumG_append : ∀ (l m : List S42), sumG (l ++ m) = sumG l + sumG m
  | [], m => by simp [sumG]
  | e :: t, m => by simp only [List.cons_append, sumG]; rw [sumG_append t m]; omega
theorem saidB_append (text : ByteArray) : ∀ (l m : List S61), saidB text (l ++ m) = saidB text l ++ saidB text m
  | [], m => by simp only [List.nil_append, saidB]; exact ByteArray.empty_append.symm
  | r :: t, m => by simp only [List.cons_append, saidB]; rw [saidB_append text t m, ByteArray.append_assoc]
theorem saidB_kp (text : ByteArray) (a b : Int) (ha : 0 ≤ a) (hb : b ≤ text.size) : ((saidB text (kp a b)).size : Int) = if a < b then b - a else 0 := by
  unfold kp
  split
  · simp only [saidB, piece]
    rw [if_pos trivial, ByteArray.size_append, ByteArray.size_extract]
    simp only [ByteArray.size, List.size_toArray, List.length_nil]
    simp only [ByteArray.size] at hb
    omega
  · simp [saidB, ByteArray.size]
theorem saidB_size (text : ByteArray) (F : Int) (hF : F = text.size) : ∀ (es : List S42) (a : Int) (p : Option Int), Chain F p es → 0 ≤ a → a ≤ F → (∀ e t, es = e :: t → a ≤ e.f0) → ((saidB text (segs F a es)).size : Int) = F - a + sumG es
  | [], a, p, _, h0, h1, _ => by
    simp only [segs, sumG]
    rw [saidB_kp text a F h0 (by omega)]
    split <;> omega
  | e :: t, a, p, ⟨c1, c2, c3, c4, c5⟩, h0, h1, h2 => by
    have ha := h2 e t rfl
    have ih := saidB_size text F hF t e.f1 (some e.f1) c5 (by omega) c3 (fun e' t' ht => by subst ht; have := c5.2.2.2.1 _ rfl; omega)
    simp only [segs, sumG]
    rw [saidB_append, ByteArray.size_append]
    simp only [saidB, piece]
    rw [ByteArray.size_append]
    simp only [Bool.false_eq_true, if_false]
    have hk := saidB_kp text a e.f0 h0 (by omega)
    unfold grow
    split at hk <;> omega
end Go.Proofs.Ytaihajmdngoeiaa.Q

namespace Go.Proofs.Ytaihajmdngoeiaa.Q
open Go.RowKit Go.Proofs.YtaihajmdngoeiaaW.PrintWords Go.Proofs.YtaihajmdngoeiaaW.PrintLast Go.Proofs.YtaihajmdngoeiaaW.PrintMore
open Go.Proofs.Ytaihajmdngoeiaa.F

theorem chain_drop {size : Int} : ∀ {l : List S42} {p : Option Int}, Chain size p l → ∀ j, ∃ q, Chain size q (l.drop j)
  | [], p, _, j => ⟨none, by simp [Chain]⟩
  | e :: t, p, h, 0 => ⟨p, h⟩
  | e :: t, p, ⟨c1, c2, c3, c4, c5⟩, j + 1 => by simpa using chain_drop c5 j
theorem chain_at {size : Int} {l : List S42} {p : Option Int} (h : Chain size p l) (j : Nat) (hj : j < l.length) : 0 ≤ (l[j]).f0 ∧ (l[j]).f0 ≤ (l[j]).f1 ∧ (l[j]).f1 ≤ size := by
  obtain ⟨q, hq⟩ := chain_drop h j
  rw [List.drop_eq_getElem_cons hj] at hq
  exact ⟨hq.1, hq.2.1, hq.2.2.1⟩
theorem shift_step (s : Int) (e : S42) : wrap64 (wrap64 s + growsOf e) = wrap64 (s + grow e) := by unfold growsOf grow wrap64; omega

end Go.Proofs.Ytaihajmdngoeiaa.Q

namespace Go.Proofs.Ytaihajmdngoeiaa.Q
open Go.RowKit Go.Proofs.YtaihajmdngoeiaaW.PrintWords Go.Proofs.YtaihajmdngoeiaaW.PrintLast Go.Proofs.YtaihajmdngoeiaaW.PrintMore
open Go.Proofs.Ytaihajmdngoeiaa.F

set_option linter.unusedSimpArgs false
theorem sn_bytes (s : ByteArray) : strOfNums (bytesOf s) = s := by
  unfold strOfNums bytesOf
  apply ByteArray.ext
  rw [List.map_map]
  apply Array.ext'
  simp only [List.toList_toArray]
  conv => rhs; rw [← List.map_id s.data.toList]
  apply List.map_congr_left
  intro b _
  simp
theorem bo_append (a b : ByteArray) : bytesOf (a ++ b) = bytesOf a ++ bytesOf b := by
  unfold bytesOf
  rw [ByteArray.data_append]
  simp

/-- What a list of edits leaves of a text from a place on. -/
def apGo (text : ByteArray) : Int → List S42 → ByteArray
  | a, [] => text.extract a.toNat text.size
  | a, e :: t => text.extract a.toNat e.f0.toNat ++ e.f2 ++ apGo text e.f1 t
theorem ex_none (s : ByteArray) (a b : Nat) (h : b ≤ a) : s.extract a b = ⟨#[]⟩ := by
  have : (s.extract a b).size = 0 := by rw [ByteArray.size_extract]; omega
  apply ByteArray.ext
  exact Array.eq_empty_of_size_eq_zero this
theorem saidB_kp_eq (text : ByteArray) (a b : Int) (ha : 0 ≤ a) : saidB text (kp a b) = text.extract a.toNat b.toNat := by
  unfold kp
  split
  · simp only [saidB, piece, if_true]
    exact ByteArray.append_empty
  · rw [ex_none _ _ _ (by omega)]
    rfl
theorem saidB_segs (text : ByteArray) : ∀ (es : List S42) (a : Int), 0 ≤ a → (∀ e ∈ es, 0 ≤ e.f1) → saidB text (segs text.size a es) = apGo text a es
  | [], a, ha, _ => by simp only [segs, apGo]; rw [saidB_kp_eq _ _ _ ha]; simp
  | e :: t, a, ha, h => by
    simp only [segs, apGo]
    rw [saidB_append, saidB_kp_eq _ _ _ ha]
    simp only [saidB, piece, Bool.false_eq_true, if_false]
    rw [saidB_segs text t e.f1 (h e List.mem_cons_self) (fun x hx => h x (List.mem_cons_of_mem _ hx)), ByteArray.append_assoc]

theorem left_loop (l : List S42) (hl : l.length ≤ 65536) (d : Nat) : ∀ (i : Nat) (s : Int), i ≤ l.length → l.length - i = d →
    Ev (fun k => edits_left.l0 k (wrap64 s) l (l.length : Int) (i : Int)) (wrap64 (s + sumG (l.drop i))) := by
  induction d with
  | zero =>
    intro i s h1 h2
    refine ⟨1, fun n hn => ?_⟩
    obtain ⟨k, rfl⟩ : ∃ m, n = m + 1 := ⟨n - 1, by omega⟩
    simp only [edits_left.l0]
    rw [if_neg (by omega), List.drop_eq_nil_of_le (by omega)]
    simp [sumG]
  | succ d ih =>
    intro i s h1 h2
    have hi : i < l.length := by omega
    have hw : wrap64 ((i : Int) + 1) = ((i + 1 : Nat) : Int) := by rw [w64] <;> omega
    obtain ⟨K, hK⟩ := ih (i + 1) (s + grow l[i]) (by omega) (by omega)
    refine ⟨K + 1, fun n hn => ?_⟩
    obtain ⟨k, rfl⟩ : ∃ m, n = m + 1 := ⟨n - 1, by omega⟩
    have g := hK k (by omega)
    simp only at g
    simp only [edits_left.l0]
    rw [rd_at l i hi, if_pos (by omega), if_pos (by omega), if_pos (by omega), grows_is]
    simp only [Option.bind_some]
    rw [shift_step, hw, g, List.drop_eq_getElem_cons hi]
    simp only [sumG]
    congr 2
    omega
theorem left_is (size : Int) (h0 : 0 ≤ size) (h1 : size ≤ 4611686018427387904) (l : List S42) (hl : l.length ≤ 65536) : Ev (fun k => edits_left.f k size l) (wrap64 (size + sumG l)) := by
  unfold edits_left.f
  have := left_loop l hl l.length 0 size (by omega) (by omega)
  rw [w64 (x := size) (by omega) (by omega)] at this
  simpa using this

theorem apGo_size (text : ByteArray) (es : List S42) (a : Int) (p : Option Int) (hc : Chain text.size p es) (h0 : 0 ≤ a) (ha : a ≤ text.size) (hp : ∀ e t, es = e :: t → a ≤ e.f0) :
    ((apGo text a es).size : Int) = text.size - a + sumG es := by
  have hne : ∀ e ∈ es, 0 ≤ e.f1 := by
    intro e he
    obtain ⟨j, hj, rfl⟩ := List.mem_iff_getElem.1 he
    have := chain_at hc j hj
    omega
  rw [← saidB_segs text es a h0 hne]
  exact saidB_size text text.size rfl es a p hc h0 ha hp

theorem ap_loop (text : ByteArray) (l : List S42) (hl : l.length ≤ 65536) (hc : Chain text.size none l) (d : Nat) : ∀ (i : Nat) (a : Int) (out : List Int), i ≤ l.length → l.length - i = d → 0 ≤ a → a ≤ text.size → (∀ e t, l.drop i = e :: t → a ≤ e.f0) → out.length + (apGo text a (l.drop i)).size < 140737488355328 →
    Ev (fun k => edits_Apply.l0 k text out a l (l.length : Int) (i : Int)) (strOfNums (out ++ bytesOf (apGo text a (l.drop i))), 0) := by
  induction d with
  | zero =>
    intro i a out h1 h2 ha0 ha1 hp hs
    refine ⟨1, fun n hn => ?_⟩
    obtain ⟨k, rfl⟩ : ∃ m, n = m + 1 := ⟨n - 1, by omega⟩
    rw [List.drop_eq_nil_of_le (by omega)] at hs ⊢
    simp only [edits_Apply.l0, apGo] at hs ⊢
    rw [if_neg (by omega), if_pos ha0, if_pos ha1, if_pos hs]
  | succ d ih =>
    intro i a out h1 h2 ha0 ha1 hp hs
    have hi : i < l.length := by omega
    have hw : wrap64 ((i : Int) + 1) = ((i + 1 : Nat) : Int) := by rw [w64] <;> omega
    rw [List.drop_eq_getElem_cons hi] at hp hs ⊢
    have hae := hp _ _ rfl
    obtain ⟨e1, e2, e3⟩ := chain_at hc i hi
    simp only [apGo] at hs ⊢
    rw [ByteArray.size_append, ByteArray.size_append] at hs
    have hnext : ∀ e t, l.drop (i + 1) = e :: t → (l[i]).f1 ≤ e.f0 := by
      intro e t he
      obtain ⟨q, hq⟩ := chain_drop hc i
      rw [List.drop_eq_getElem_cons hi, he] at hq
      have := hq.2.2.2.2.2.2.2.1 _ rfl
      omega
    have hlen : (out ++ bytesOf (text.extract a.toNat (l[i]).f0.toNat) ++ bytesOf (l[i]).f2).length + (apGo text (l[i]).f1 (l.drop (i + 1))).size < 140737488355328 := by
      simp only [List.length_append, bytesOf_length]
      generalize (apGo text (l[i]).f1 (l.drop (i + 1))).size = T at hs ⊢
      generalize (text.extract a.toNat (l[i]).f0.toNat).size = X at hs ⊢
      omega
    have hlim : out.length + (text.extract a.toNat (l[i]).f0.toNat).size < 140737488355328 ∧ out.length + (text.extract a.toNat (l[i]).f0.toNat).size + (l[i]).f2.size < 140737488355328 := by
      generalize (apGo text (l[i]).f1 (l.drop (i + 1))).size = T at hs
      generalize (text.extract a.toNat (l[i]).f0.toNat).size = X at hs ⊢
      omega
    clear hs
    obtain ⟨K, hK⟩ := ih (i + 1) (l[i]).f1 (out ++ bytesOf (text.extract a.toNat (l[i]).f0.toNat) ++ bytesOf (l[i]).f2) (by omega) (by omega) (by omega) e3 hnext hlen
    clear hlen
    refine ⟨K + 1, fun n hn => ?_⟩
    obtain ⟨k, rfl⟩ : ∃ m, n = m + 1 := ⟨n - 1, by omega⟩
    have g := hK k (by omega)
    simp only at g
    simp only [edits_Apply.l0]
    rw [rd_at l i hi, if_pos (by omega), if_pos (by omega), if_pos (by omega), if_pos ha0, if_pos hae, if_pos (by omega), if_pos hlim.1]
    simp only [Option.bind_some]
    rw [if_pos (by simp only [List.length_append, bytesOf_length]; exact hlim.2), hw, g]
    simp only [bo_append, List.append_assoc]

def Apspec (text : ByteArray) (l : List S42) : ByteArray × Int := if vspec text.size l = 0 then (apGo text 0 l, 0) else (⟨#[]⟩, vspec text.size l)
theorem ap_first {size : Int} {p : Option Int} {l : List S42} (hc : Chain size p l) : ∀ e t, l = e :: t → 0 ≤ e.f0 := by
  rintro e t rfl
  exact hc.1
/-- How many bytes the texts of a list have. -/
def tot : List S42 → Nat
  | [] => 0
  | e :: t => e.f2.size + tot t
theorem sumG_tot {size : Int} : ∀ {l : List S42} {p : Option Int}, Chain size p l → sumG l ≤ tot l
  | [], _, _ => by simp [sumG, tot]
  | e :: t, p, ⟨c1, c2, c3, c4, c5⟩ => by
    have := sumG_tot c5
    simp only [sumG, tot, grow]
    omega
theorem ap_size (text : ByteArray) (l : List S42) (h : vspec text.size l = 0) : ((apGo text 0 l).size : Int) = text.size + sumG l := by
  obtain ⟨hl, hc⟩ := vspec_zero h
  have := apGo_size text l 0 none hc (by omega) (by omega) (ap_first hc)
  omega
theorem ap_le (text : ByteArray) (l : List S42) (h : vspec text.size l = 0) : (apGo text 0 l).size ≤ text.size + tot l := by
  have h1 := ap_size text l h
  have h2 := sumG_tot (vspec_zero h).2
  omega

theorem Apply_is (text : ByteArray) (l : List S42) (hb : text.size + tot l < 140737488355328) : Ev (fun k => edits_Apply.f k text l) (Apspec text l) := by
  unfold edits_Apply.f Apspec
  refine (valid_is _ l).bind ?_
  by_cases h : vspec text.size l = 0
  · simp only [if_pos h]
    obtain ⟨hl, hc⟩ := vspec_zero h
    have hle := ap_le text l h
    have hsz := ap_size text l h
    refine (left_is text.size (by omega) (by omega) l hl).bind ?_
    have hw : wrap64 ((text.size : Int) + sumG l) = ((apGo text 0 l).size : Int) := by rw [← hsz, w64] <;> omega
    rw [hw]
    simp only [if_pos (show (0 : Int) ≤ ((apGo text 0 l).size : Int) by omega), if_pos (show ((apGo text 0 l).size : Int).toNat ≤ 281474976710656 by omega)]
    have := ap_loop text l hl hc l.length 0 0 [] (by omega) (by omega) (by omega) (by omega) (by simpa using ap_first hc) (by simpa using by omega)
    simpa [sn_bytes] using this
  · simp only [if_neg h]; exact Ev.now _
end Go.Proofs.Ytaihajmdngoeiaa.Q

namespace Go.Proofs.Ytaihajmdngoeiaa.Q
open Go.RowKit Go.Proofs.YtaihajmdngoeiaaW.PrintWords Go.Proofs.YtaihajmdngoeiaaW.PrintLast Go.Proofs.YtaihajmdngoeiaaW.PrintMore
open Go.Proofs.Ytaihajmdngoeiaa.F
set_option linter.unusedSimpArgs false

theorem shGo_skip (x : Int) (l : List S42) (hb : ∀ j (h : j < l.length), (l[j]).f2.size ≤ 1048576 ∧ 0 ≤ (l[j]).f0 ∧ (l[j]).f0 ≤ (l[j]).f1) : ∀ (i : Nat) (n : Int), i ≤ l.length → (∀ j (h : j < l.length), j < i → (l[j]).f1 ≤ x) →
    shGo x (wrap64 n) l = shGo x (wrap64 (n + sumG (l.take i))) (l.drop i)
  | 0, n, _, _ => by simp [sumG]
  | i + 1, n, hi, hj => by
    rw [shGo_skip x l hb i n (by omega) (fun j h hji => hj j h (by omega))]
    have hi' : i < l.length := by omega
    rw [List.drop_eq_getElem_cons hi']
    have h1 := hj i hi' (by omega)
    simp only [shGo]
    rw [if_neg (by omega), shift_step, List.take_succ_eq_append_getElem hi', sumG_append]
    simp only [sumG]
    congr 2
    omega

theorem chain_wide {s s' : Int} (h : s ≤ s') : ∀ {l : List S42} {p : Option Int}, Chain s p l → Chain s' p l
  | [], _, _ => trivial
  | e :: t, p, ⟨c1, c2, c3, c4, c5⟩ => ⟨c1, c2, by omega, c4, chain_wide h c5⟩
theorem tot_le {l : List S42} (j : Nat) (h : j < l.length) : (l[j]).f2.size ≤ tot l := by
  induction l generalizing j with
  | nil => simp at h
  | cons e t ih =>
    simp only [tot]
    cases j with
    | zero => simp
    | succ j => have := ih j (by simpa using h); simp only [List.getElem_cons_succ]; omega
/-- The next edit begins (ends) no earlier. -/
def Nx0 (l : List S42) (i : Nat) (y : Int) : Prop := ∀ h : i < l.length, y ≤ (l[i]).f0
def Nx1 (l : List S42) (i : Nat) (y : Int) : Prop := ∀ h : i < l.length, y ≤ (l[i]).f1
theorem Nx0.at {l : List S42} {i : Nat} {y : Int} (h : Nx0 l i y) (hi : i < l.length) : y ≤ (l[i]).f0 := h hi
theorem Nx1.at {l : List S42} {i : Nat} {y : Int} (h : Nx1 l i y) (hi : i < l.length) : y ≤ (l[i]).f1 := h hi
theorem Nx0.mk {l : List S42} {i : Nat} {y : Int} (h : ∀ h : i < l.length, y ≤ (l[i]).f0) : Nx0 l i y := h
theorem Nx1.mk {l : List S42} {i : Nat} {y : Int} (h : ∀ h : i < l.length, y ≤ (l[i]).f1) : Nx1 l i y := h
section
variable (text : ByteArray) (l : List S42) (hb : text.size + tot l ≤ 1048576) (hv : vspec text.size l = 0)
include hb hv

end
end Go.Proofs.Ytaihajmdngoeiaa.Q

namespace Go.Proofs.Ytaihajmdngoeiaa.Q
open Go.RowKit Go.Proofs.YtaihajmdngoeiaaW.PrintWords Go.Proofs.YtaihajmdngoeiaaW.PrintLast Go.Proofs.YtaihajmdngoeiaaW.PrintMore
open Go.Proofs.Ytaihajmdngoeiaa.F

theorem same_loop (l : List S42) (hl : l.length ≤ 9223372036854775807) (d : Nat) : ∀ i, i ≤ l.length → l.length - i = d →
    Ev (fun k => monikerplain_SameEdits.l0 k l l (l.length : Int) (i : Int)) true := by
  induction d with
  | zero =>
    intro i h1 h2
    refine ⟨1, fun n hn => ?_⟩
    obtain ⟨k, rfl⟩ : ∃ m, n = m + 1 := ⟨n - 1, by omega⟩
    simp only [monikerplain_SameEdits.l0]
    rw [if_neg (by omega)]
  | succ d ih =>
    intro i h1 h2
    obtain ⟨K, hK⟩ := ih (i + 1) (by omega) (by omega)
    refine ⟨K + 1, fun n hn => ?_⟩
    obtain ⟨k, rfl⟩ : ∃ m, n = m + 1 := ⟨n - 1, by omega⟩
    simp only [monikerplain_SameEdits.l0]
    rw [if_pos (by omega), if_pos (by omega), if_pos (by omega), if_pos (by omega), if_neg (by simp), show wrap64 ((i : Int) + 1) = ((i + 1 : Nat) : Int) by unfold wrap64; omega]
    exact hK k (by omega)
theorem same_is (l : List S42) (hl : l.length ≤ 9223372036854775807) : Ev (fun k => monikerplain_SameEdits.f k l l) true := by
  unfold monikerplain_SameEdits.f
  simp only [↓reduceIte]
  exact same_loop l hl l.length 0 (by omega) (by omega)
end Go.Proofs.Ytaihajmdngoeiaa.Q

-- EditsBoth, plainly
namespace Go.Proofs.Ytaihajmdngoeiaa.Q
open Go.RowKit Go.Proofs.YtaihajmdngoeiaaW.PrintWords Go.Proofs.YtaihajmdngoeiaaW.PrintLast Go.Proofs.YtaihajmdngoeiaaW.PrintMore
open Go.Proofs.Ytaihajmdngoeiaa.F
set_option linter.unusedVariables false
set_option linter.unusedSimpArgs false

/-- Both lists, merged. -/
def mg (a b : List S42) : List S42 := mergeL (a.length + b.length) a b
theorem mg_nc (y : S42) (b : List S42) : mg [] (y :: b) = y :: mg [] b := by
  unfold mg
  rw [show ([] : List S42).length + (y :: b).length = (([] : List S42).length + b.length) + 1 by simp]
  rfl
theorem mg_cn (x : S42) (a : List S42) : mg (x :: a) [] = x :: mg a [] := by
  unfold mg
  rw [show (x :: a).length + ([] : List S42).length = (a.length + ([] : List S42).length) + 1 by simp]
  rfl
theorem mg_cc (x : S42) (a : List S42) (y : S42) (b : List S42) : mg (x :: a) (y :: b) = if aheadB y x = true then y :: mg (x :: a) b else x :: mg a (y :: b) := by
  unfold mg
  rw [show (x :: a).length + (y :: b).length = ((x :: a).length + b.length) + 1 by simp only [List.length_cons]; omega]
  simp only [mergeL]
  rw [show (x :: a).length + b.length = a.length + (y :: b).length by simp only [List.length_cons]; omega]
theorem mg_nil (a : List S42) : mg a [] = a := by
  induction a with
  | nil => rfl
  | cons x a ih => rw [mg_cn, ih]
theorem mg_mem (a b : List S42) (e : S42) : e ∈ mg a b ↔ e ∈ a ∨ e ∈ b := mergeL_mem _ a b (Nat.le_refl _) e
/-- Where none meets none the order doesn't matter. -/
theorem mg_comm : ∀ (n : Nat) (a b : List S42), a.length + b.length ≤ n → (∀ e ∈ a, e.f0 ≤ e.f1) → (∀ e ∈ b, e.f0 ≤ e.f1) → (∀ x ∈ a, ∀ y ∈ b, Far x y ∨ Far y x) → mg a b = mg b a
  | _, [], [], _, _, _, _ => rfl
  | 0, x :: a, _, h, _, _, _ => by simp at h
  | 0, [], y :: b, h, _, _, _ => by simp at h
  | n + 1, [], y :: b, h, ha, hb, hf => by
    rw [mg_nc, mg_cn, mg_comm n [] b (by simp at h ⊢; omega) ha (fun e he => hb e (List.mem_cons_of_mem _ he)) (fun x hx => by cases hx)]
  | n + 1, x :: a, [], h, ha, hb, hf => by
    rw [mg_nc, mg_cn, mg_comm n a [] (by simp at h ⊢; omega) (fun e he => ha e (List.mem_cons_of_mem _ he)) hb (fun x hx y hy => by cases hy)]
  | n + 1, x :: a, y :: b, h, ha, hb, hf => by
    have h1 := ha x List.mem_cons_self
    have h2 := hb y List.mem_cons_self
    have h3 := hf x List.mem_cons_self y List.mem_cons_self
    have hcase : aheadB y x = true ∧ aheadB x y = false ∨ aheadB y x = false ∧ aheadB x y = true := by
      unfold aheadB
      unfold Far at h3
      by_cases c1 : y.f0 < x.f0
      · left
        rw [decide_eq_true c1, decide_eq_false (show ¬ x.f0 < y.f0 by omega), decide_eq_false (show ¬ x.f0 = y.f0 by omega)]
        exact ⟨rfl, rfl⟩
      · by_cases c2 : x.f0 < y.f0
        · right
          rw [decide_eq_true c2, decide_eq_false c1, decide_eq_false (show ¬ y.f0 = x.f0 by omega)]
          exact ⟨rfl, rfl⟩
        · have e0 : x.f0 = y.f0 := by omega
          rw [decide_eq_false c1, decide_eq_false c2, decide_eq_true e0, decide_eq_true e0.symm]
          by_cases c3 : y.f1 < x.f1
          · left
            rw [decide_eq_true c3, decide_eq_false (show ¬ x.f1 < y.f1 by omega)]
            exact ⟨rfl, rfl⟩
          · right
            rw [decide_eq_false c3, decide_eq_true (show x.f1 < y.f1 by omega)]
            exact ⟨rfl, rfl⟩
    rw [mg_cc, mg_cc]
    rcases hcase with ⟨e1, e2⟩ | ⟨e1, e2⟩
    · rw [if_pos e1, if_neg (by rw [e2]; simp), mg_comm n (x :: a) b (by simp only [List.length_cons] at h ⊢; omega) ha (fun e he => hb e (List.mem_cons_of_mem _ he)) (fun x' hx y' hy => hf x' hx y' (List.mem_cons_of_mem _ hy))]
    · rw [if_neg (by rw [e1]; simp), if_pos e2, mg_comm n a (y :: b) (by simp only [List.length_cons] at h ⊢; omega) (fun e he => ha e (List.mem_cons_of_mem _ he)) hb (fun x' hx y' hy => hf x' (List.mem_cons_of_mem _ hx) y' hy)]
/-- One behind the other, touching or not. -/
def Loose (size : Int) : Int → List S42 → Prop
  | _, [] => True
  | p, e :: t => p ≤ e.f0 ∧ e.f0 ≤ e.f1 ∧ e.f1 ≤ size ∧ Loose size e.f1 t
theorem loose_of_ok (size : Int) : ∀ (l : List S42) (en pt : Int), (∀ e ∈ l, e.f0 ≤ e.f1 ∧ e.f1 ≤ size) → okL en pt l = true → Loose size en l
  | [], _, _, _, _ => trivial
  | e :: t, en, pt, hs, h => by
    simp only [okL] at h
    by_cases c : e.f0 < en ∨ (e.f0 = e.f1 ∧ e.f0 = pt)
    · rw [if_pos c] at h
      cases h
    · rw [if_neg c] at h
      have := hs e List.mem_cons_self
      exact ⟨by omega, this.1, this.2, loose_of_ok size t _ _ (fun x hx => hs x (List.mem_cons_of_mem _ hx)) h⟩
theorem loose_first {size p q : Int} {l : List S42} (h : Loose size p l) (hq : ∀ e t, l = e :: t → q ≤ e.f0) : Loose size q l := by
  cases l with
  | nil => trivial
  | cons e t => exact ⟨hq e t rfl, h.2⟩
/-- What a part of a list leaves, and where it ends. -/
def apPre (text : ByteArray) : Int → List S42 → ByteArray
  | _, [] => ⟨#[]⟩
  | a, e :: t => text.extract a.toNat e.f0.toNat ++ e.f2 ++ apPre text e.f1 t
def endAt : Int → List S42 → Int
  | a, [] => a
  | _, e :: t => endAt e.f1 t
theorem apGo_app (text : ByteArray) : ∀ (l m : List S42) (a : Int), apGo text a (l ++ m) = apPre text a l ++ apGo text (endAt a l) m
  | [], m, a => by simp only [List.nil_append, apPre, endAt]; exact ByteArray.empty_append.symm
  | e :: t, m, a => by simp only [List.cons_append, apGo, apPre, endAt]; rw [apGo_app text t m e.f1]; simp only [ByteArray.append_assoc]
theorem endAt_app (l : List S42) (e : S42) (a : Int) : endAt a (l ++ [e]) = e.f1 := by
  induction l generalizing a with
  | nil => rfl
  | cons x l ih => exact ih x.f1
theorem loose_app {size : Int} : ∀ {l m : List S42} {p : Int}, Loose size p (l ++ m) → Loose size p l ∧ Loose size (endAt p l) m
  | [], m, p, h => ⟨trivial, h⟩
  | e :: t, m, p, ⟨h1, h2, h3, h4⟩ => ⟨⟨h1, h2, h3, (loose_app h4).1⟩, (loose_app h4).2⟩
theorem ex_join (s : ByteArray) (a b c : Nat) (h1 : a ≤ b) (h2 : b ≤ c) : s.extract a b ++ s.extract b c = s.extract a c := by
  apply ByteArray.ext
  simp only [ByteArray.data_append, ByteArray.data_extract]
  rw [Array.extract_append_extract]
  congr 1 <;> omega
theorem endAt_le {size : Int} : ∀ {l : List S42} {p : Int}, Loose size p l → p ≤ size → p ≤ endAt p l ∧ endAt p l ≤ size
  | [], p, _, h => ⟨Int.le_refl _, h⟩
  | e :: t, p, ⟨h1, h2, h3, h4⟩, _ => by
    have := endAt_le h4 h3
    simp only [endAt]
    omega
theorem endAt_mem {size : Int} : ∀ {l : List S42} {p : Int}, Loose size p l → ∀ e ∈ l, e.f1 ≤ endAt p l
  | x :: t, p, ⟨h1, h2, h3, h4⟩, e, he => by
    simp only [endAt]
    rcases List.mem_cons.1 he with rfl | he
    · exact (endAt_le h4 h3).1
    · exact endAt_mem h4 e he
/-- From a place ahead on: the old bytes between first. -/
theorem apGo_from (text : ByteArray) (l : List S42) (a m : Int) (ha : 0 ≤ a) (ham : a ≤ m) (hm : m ≤ text.size) (h : ∀ e t, l = e :: t → m ≤ e.f0) : apGo text a l = text.extract a.toNat m.toNat ++ apGo text m l := by
  cases l with
  | nil =>
    simp only [apGo]
    exact (ex_join text _ _ _ (by omega) (by omega)).symm
  | cons e t =>
    have := h e t rfl
    simp only [apGo]
    rw [← ex_join text a.toNat m.toNat e.f0.toNat (by omega) (by omega)]
    simp only [ByteArray.append_assoc]
theorem apPre_size (text : ByteArray) : ∀ (l : List S42) (a : Int), 0 ≤ a → Loose text.size a l → ((apPre text a l).size : Int) = endAt a l - a + sumG l
  | [], a, _, _ => by simp only [apPre, endAt, sumG]; show ((0 : Nat) : Int) = _; omega
  | e :: t, a, h0, ⟨h1, h2, h3, h4⟩ => by
    have ih := apPre_size text t e.f1 (by omega) h4
    simp only [apPre, endAt, sumG, grow]
    rw [ByteArray.size_append, ByteArray.size_append, ByteArray.size_extract]
    omega

theorem snoc_of {out : List S42} (h : 0 < out.length) : ∃ o u, out = o ++ [u] := by
  rcases List.eq_nil_or_concat out with rfl | ⟨o, u, rfl⟩
  · simp at h
  · exact ⟨o, u, by simp⟩
theorem joinE_snoc (o : List S42) (u e : S42) : joinE (o ++ [u]) e = if u.f1 = e.f0 then o ++ [⟨u.f0, e.f1, u.f2 ++ e.f2⟩] else o ++ [u] ++ [e] := by
  have hl : 0 < (o ++ [u]).length := by simp
  have hr : rd_T42 (o ++ [u]) (((o ++ [u]).length : Int) - 1) = u := by
    rw [rd_last hl]
    simp
  unfold joinE
  rw [hr]
  by_cases c : u.f1 = e.f0
  · rw [if_pos ⟨hl, c⟩, if_pos c]
    simp
  · rw [if_neg (fun h => c h.2), if_neg c]
theorem joinE_ap (text : ByteArray) (out : List S42) (e : S42) (T : List S42) (a : Int) : apGo text a (joinE out e ++ T) = apGo text a (out ++ e :: T) := by
  by_cases h : 0 < out.length
  · obtain ⟨o, u, rfl⟩ := snoc_of h
    rw [joinE_snoc]
    by_cases c : u.f1 = e.f0
    · rw [if_pos c]
      simp only [List.append_assoc, List.singleton_append, List.cons_append, List.nil_append]
      rw [apGo_app, apGo_app]
      simp only [apGo]
      rw [c, ex_none text _ _ (Nat.le_refl _), ByteArray.append_assoc, ByteArray.append_assoc, ByteArray.append_assoc]
      congr 1
    · rw [if_neg c]
      simp
  · have : out = [] := List.eq_nil_of_length_eq_zero (by omega)
    subst this
    rfl
theorem joinR_ap (text : ByteArray) (a : Int) : ∀ (L out : List S42), apGo text a (joinR out L) = apGo text a (out ++ L)
  | [], out => by simp [joinR]
  | e :: L, out => by
    rw [fold_cons, joinR_ap text a L (joinE out e), joinE_ap]
theorem chain_snoc {size : Int} : ∀ {l : List S42} {p : Option Int} {e : S42}, Chain size p l → 0 ≤ e.f0 → e.f0 ≤ e.f1 → e.f1 ≤ size → (∀ o u, l = o ++ [u] → u.f1 < e.f0) → (l = [] → ∀ q, p = some q → q < e.f0) → Chain size p (l ++ [e])
  | [], p, e, _, h1, h2, h3, _, h5 => ⟨h1, h2, h3, h5 rfl, trivial⟩
  | x :: t, p, e, ⟨c1, c2, c3, c4, c5⟩, h1, h2, h3, h4, _ => by
    refine ⟨c1, c2, c3, c4, ?_⟩
    refine chain_snoc c5 h1 h2 h3 (fun o u ho => h4 (x :: o) u (by rw [ho]; rfl)) (fun ht q hq => ?_)
    subst ht
    cases hq
    exact h4 [] x rfl
theorem chain_swap {size : Int} : ∀ {l : List S42} {p : Option Int} {u : S42} {z : Int} {s : ByteArray}, Chain size p (l ++ [u]) → u.f1 ≤ z → z ≤ size → Chain size p (l ++ [⟨u.f0, z, s⟩])
  | [], p, u, z, s, ⟨c1, c2, c3, c4, _⟩, h1, h2 => ⟨c1, by show u.f0 ≤ z; omega, h2, c4, trivial⟩
  | x :: t, p, u, z, s, ⟨c1, c2, c3, c4, c5⟩, h1, h2 => ⟨c1, c2, c3, c4, chain_swap c5 h1 h2⟩
theorem chain_joinR {size : Int} : ∀ (L out : List S42), Chain size none out → Loose size (endAt 0 out) L → Chain size none (joinR out L)
  | [], out, h, _ => h
  | e :: L, out, h, ⟨h1, h2, h3, h4⟩ => by
    rw [fold_cons]
    have key : Chain size none (joinE out e) ∧ endAt 0 (joinE out e) = e.f1 := by
      by_cases c : 0 < out.length
      · obtain ⟨o, u, rfl⟩ := snoc_of c
        rw [endAt_app] at h1
        rw [joinE_snoc]
        have hu : 0 ≤ u.f1 := by
          have := chain_at h o.length (by simp)
          simp at this
          omega
        by_cases c2 : u.f1 = e.f0
        · rw [if_pos c2]
          exact ⟨chain_swap h (by omega) h3, endAt_app _ _ _⟩
        · rw [if_neg c2]
          refine ⟨chain_snoc h (by omega) h2 h3 (fun o' u' he => ?_) (fun he => by simp at he), endAt_app _ _ _⟩
          have := List.append_inj' he rfl
          have e2 := (List.cons.inj this.2).1
          subst e2
          omega
      · have : out = [] := List.eq_nil_of_length_eq_zero (by omega)
        subst this
        exact ⟨⟨h1, h2, h3, (fun q hq => by cases hq), trivial⟩, rfl⟩
    exact chain_joinR L (joinE out e) key.1 (by rw [key.2]; exact h4)
theorem chain_drop' {size : Int} : ∀ (o : List S42) {p : Option Int} {m : List S42}, Chain size p (o ++ m) → ∃ q, Chain size q m
  | [], p, m, h => ⟨p, h⟩
  | x :: o, p, m, h => chain_drop' o h.2.2.2.2
/-- A list that has no two that touch joins to itself. -/
theorem joinR_self {size : Int} : ∀ (L out : List S42), Chain size none (out ++ L) → joinR out L = out ++ L
  | [], out, _ => by simp [joinR]
  | e :: L, out, h => by
    rw [fold_cons]
    have hj : joinE out e = out ++ [e] := by
      by_cases c : 0 < out.length
      · obtain ⟨o, u, rfl⟩ := snoc_of c
        rw [joinE_snoc, if_neg]
        have h' : Chain size none (o ++ u :: e :: L) := by simpa using h
        obtain ⟨q, hq⟩ := chain_drop' o h'
        have := hq.2.2.2.2.2.2.2.1 _ rfl
        omega
      · have : out = [] := List.eq_nil_of_length_eq_zero (by omega)
        subst this
        rfl
    rw [hj, joinR_self L (out ++ [e]) (by simpa using h)]
    simp
/-- Both at one element of the second list. -/
theorem mg_split (y : S42) (b : List S42) (hy : y.f0 ≤ y.f1) (hb : ∀ b0 t, b = b0 :: t → y.f1 < b0.f0) : ∀ a : List S42, ∃ P S a2, mg a (y :: b) = P ++ y :: S ∧ mg a b = P ++ S ∧ a = P ++ a2 ∧ (∀ e t, a2 = e :: t → aheadB y e = true)
  | [] => ⟨[], mg [] b, [], mg_nc y b, rfl, rfl, fun e t h => by cases h⟩
  | x :: a => by
    rw [mg_cc]
    by_cases c : aheadB y x = true
    · rw [if_pos c]
      exact ⟨[], mg (x :: a) b, x :: a, rfl, rfl, rfl, fun e t h => by cases h; exact c⟩
    · rw [if_neg c]
      obtain ⟨P, S, a2, h1, h2, h3, h4⟩ := mg_split y b hy hb a
      refine ⟨x :: P, S, a2, by rw [h1]; rfl, ?_, by rw [h3]; rfl, h4⟩
      cases b with
      | nil => rw [mg_cn, h2]; rfl
      | cons b0 t =>
        have h5 := hb b0 t rfl
        have h6 : aheadB b0 x = false := by
          unfold aheadB at c ⊢
          simp only [Bool.or_eq_true, Bool.and_eq_true, decide_eq_true_eq, not_or, not_and] at c
          rw [decide_eq_false (show ¬ b0.f0 < x.f0 by omega), decide_eq_false (show ¬ b0.f0 = x.f0 by omega)]
          rfl
        rw [mg_cc, if_neg (by rw [h6]; simp), h2]
        rfl
/-- One edit, done alone at its moved place. -/
theorem ap_one (X M Z t : ByteArray) : apGo (X ++ M ++ Z) 0 [⟨(X.size : Int), (X.size : Int) + M.size, t⟩] = X ++ t ++ Z := by
  simp only [apGo]
  have h1 : (X ++ M ++ Z).extract (0 : Int).toNat (X.size : Int).toNat = X := by
    rw [ByteArray.append_assoc]
    simp [ByteArray.extract_append_eq_left]
  have h2 : (X ++ M ++ Z).extract ((X.size : Int) + M.size).toNat (X ++ M ++ Z).size = Z := by
    have e : ((X.size : Int) + M.size).toNat = (X ++ M).size := by rw [ByteArray.size_append]; omega
    rw [e]
    exact ByteArray.extract_append_eq_right rfl ByteArray.size_append
  rw [h1, h2]
theorem tot_app : ∀ (l m : List S42), tot (l ++ m) = tot l + tot m
  | [], m => by simp [tot]
  | e :: t, m => by simp only [List.cons_append, tot, tot_app t m]; omega
theorem tot_mg : ∀ (n : Nat) (a b : List S42), a.length + b.length ≤ n → tot (mg a b) = tot a + tot b
  | _, [], [], _ => rfl
  | 0, x :: a, _, h => by simp at h
  | 0, [], y :: b, h => by simp at h
  | n + 1, [], y :: b, h => by rw [mg_nc]; simp only [tot]; rw [tot_mg n [] b (by simp at h ⊢; omega)]; simp only [tot]; omega
  | n + 1, x :: a, [], h => by rw [mg_cn]; simp only [tot]; rw [tot_mg n a [] (by simp at h ⊢; omega)]; simp only [tot]; omega
  | n + 1, x :: a, y :: b, h => by
    rw [mg_cc]
    split
    · simp only [tot]; rw [tot_mg n (x :: a) b (by simp only [List.length_cons] at h ⊢; omega)]; simp only [tot]; omega
    · simp only [tot]; rw [tot_mg n a (y :: b) (by simp only [List.length_cons] at h ⊢; omega)]; simp only [tot]; omega
theorem loose_size (text : ByteArray) : ∀ (l : List S42) (a : Int), 0 ≤ a → a ≤ text.size → Loose text.size a l → ((apGo text a l).size : Int) ≤ text.size - a + tot l
  | [], a, h0, h1, _ => by simp only [apGo, ByteArray.size_extract, tot]; omega
  | e :: t, a, h0, h1, ⟨c1, c2, c3, c4⟩ => by
    have := loose_size text t e.f1 (by omega) c3 c4
    simp only [apGo, tot]
    rw [ByteArray.size_append, ByteArray.size_append, ByteArray.size_extract]
    omega
theorem loose_join {size : Int} : ∀ {P : List S42} {S : List S42} {y : S42} {p : Int}, Loose size p (P ++ y :: S) → Loose size p (P ++ S)
  | [], S, y, p, ⟨h1, h2, h3, h4⟩ => loose_first h4 (fun e t he => by subst he; have := h4.1; omega)
  | x :: P, S, y, p, ⟨h1, h2, h3, h4⟩ => ⟨h1, h2, h3, loose_join h4⟩
theorem both_step (text : ByteArray) (ht : text.size ≤ 1048576) (a b : List S42) (y : S42) (p : Option Int) (ha : Chain text.size none a) (hts : ∀ e ∈ a, e.f2.size ≤ 1048576) (hb : Chain text.size p (y :: b)) (hl : Loose text.size 0 (mg a (y :: b))) (htot : tot a + tot b ≤ 2097152) :
    Loose text.size 0 (mg a b) ∧ ∃ N : Int, shGo y.f0 y.f0 a = (N, true) ∧ 0 ≤ N ∧ N + (y.f1 - y.f0) ≤ (apGo text 0 (mg a b)).size ∧ apGo (apGo text 0 (mg a b)) 0 [⟨N, N + (y.f1 - y.f0), y.f2⟩] = apGo text 0 (mg a (y :: b)) := by
  obtain ⟨b1, b2, b3, _, b5⟩ := hb
  have hnext : ∀ b0 t, b = b0 :: t → y.f1 < b0.f0 := fun b0 t he => by subst he; exact b5.2.2.2.1 _ rfl
  obtain ⟨P, S, a2, h1, h2, h3, h4⟩ := mg_split y b b2 hnext a
  rw [h1] at hl
  have hl2 := loose_join hl
  obtain ⟨lp, l2⟩ := loose_app hl
  obtain ⟨l3, l4, l5, l6⟩ := l2
  have he := endAt_le lp (by omega)
  have hS : ∀ e t, S = e :: t → y.f1 ≤ e.f0 := fun e t hh => by subst hh; exact l6.1
  refine ⟨by rw [h2]; exact hl2, ?_⟩
  have hsz := apPre_size text P 0 (by omega) lp
  obtain ⟨X, hX⟩ : ∃ X, X = apPre text 0 P ++ text.extract (endAt 0 P).toNat y.f0.toNat := ⟨_, rfl⟩
  obtain ⟨M, hM⟩ : ∃ M, M = text.extract y.f0.toNat y.f1.toNat := ⟨_, rfl⟩
  have hXs : (X.size : Int) = y.f0 + sumG P := by
    rw [hX, ByteArray.size_append, ByteArray.size_extract]
    omega
  have hMs : (M.size : Int) = y.f1 - y.f0 := by
    rw [hM, ByteArray.size_extract]
    omega
  have e1 : apGo text 0 (mg a b) = X ++ M ++ apGo text y.f1 S := by
    rw [h2, apGo_app, apGo_from text S (endAt 0 P) y.f0 (by omega) l3 (by omega) (fun e t hh => by have := hS e t hh; omega), apGo_from text S y.f0 y.f1 (by omega) l4 (by omega) hS, hX, hM]
    simp only [ByteArray.append_assoc]
  have e2 : apGo text 0 (mg a (y :: b)) = X ++ y.f2 ++ apGo text y.f1 S := by
    rw [h1, apGo_app, hX]
    simp only [apGo, ByteArray.append_assoc]
  have hbig : ((apGo text 0 (mg a b)).size : Int) ≤ 3145728 := by
    have := loose_size text (mg a b) 0 (by omega) (by omega) (by rw [h2]; exact hl2)
    rw [tot_mg _ a b (Nat.le_refl _)] at this
    omega
  have hle : X.size + M.size ≤ (apGo text 0 (mg a b)).size := by
    rw [e1, ByteArray.size_append, ByteArray.size_append]
    omega
  refine ⟨X.size, ?_, by omega, by omega, ?_⟩
  · have hj : ∀ j (h : j < a.length), (a[j]).f2.size ≤ 1048576 ∧ 0 ≤ (a[j]).f0 ∧ (a[j]).f0 ≤ (a[j]).f1 := fun j h => by
      have := chain_at ha j h
      exact ⟨hts _ (List.getElem_mem h), this.1, this.2.1⟩
    have hskip := shGo_skip y.f0 a hj P.length y.f0 (by rw [h3, List.length_append]; omega) (fun j h hjP => by
      have hm : a[j] ∈ P := by
        subst h3
        rw [List.getElem_append_left hjP]
        exact List.getElem_mem hjP
      have := endAt_mem lp _ hm
      omega)
    rw [w64 (by omega) (by omega)] at hskip
    rw [hskip]
    have t1 : a.take P.length = P := by rw [h3]; simp
    have t2 : a.drop P.length = a2 := by rw [h3]; simp
    rw [t1, t2, w64 (by omega) (by omega), ← hXs]
    cases a2 with
    | nil => rfl
    | cons e t =>
      have h5 := h4 e t rfl
      unfold aheadB at h5
      simp only [Bool.or_eq_true, Bool.and_eq_true, decide_eq_true_eq] at h5
      have h6 : e.f0 ≤ e.f1 := by
        obtain ⟨q, hq⟩ := chain_drop' P (by rw [← h3]; exact ha)
        exact hq.2.1
      simp only [shGo]
      rw [if_pos (by omega), if_neg (by omega)]
  · rw [e1, e2, ← hMs]
    exact ap_one X M _ _
theorem both_loop (text : ByteArray) (ht : text.size ≤ 1048576) (a b : List S42) (ha : Chain text.size none a) (hla : a.length ≤ 65536) (hlb : b.length ≤ 65536) (hts : ∀ e ∈ a, e.f2.size ≤ 1048576) (hb : Chain text.size none b) (hl : Loose text.size 0 (mg a b)) (htot : tot a + tot b ≤ 1048576) :
    ∀ (i : Nat), i ≤ b.length → Loose text.size 0 (mg a (b.drop i)) ∧ Ev (fun k => monikerlaw1_EditsBoth.l0 k a b (apGo text 0 (mg a b)) (apGo text 0 (mg a (b.drop i))) ((i : Int) - 1)) true
  | 0, _ => by
    refine ⟨by simpa using hl, Ev.step (f := fun _ => some true) (fun k => ?_) (Ev.now _)⟩
    simp only [monikerlaw1_EditsBoth.l0]
    rw [if_neg (by omega)]
    simp
  | i + 1, hi => by
    obtain ⟨hL, ih⟩ := both_loop text ht a b ha hla hlb hts hb hl htot i (by omega)
    have hlt : i < b.length := by omega
    obtain ⟨q, hq⟩ := chain_drop hb i
    rw [List.drop_eq_getElem_cons hlt] at hq hL
    have hdt : ∀ (l : List S42) (n : Nat), tot (l.drop n) ≤ tot l := fun l n => by
      have := tot_app (l.take n) (l.drop n)
      rw [List.take_append_drop] at this
      omega
    have h2 := hdt b (i + 1)
    have h2' : (b[i]).f2.size ≤ tot b := tot_le i hlt
    obtain ⟨hL2, N, s1, s2, s3, s4⟩ := both_step text ht a (b.drop (i + 1)) b[i] q ha hts hq hL (by omega)
    refine ⟨hL2, ?_⟩
    obtain ⟨c1, c2, c3, _, _⟩ := hq
    have hbig := loose_size text _ 0 (by omega) (by omega) hL2
    rw [tot_mg _ a _ (Nat.le_refl _)] at hbig
    have hSh := Shift_is a (b[i]).f0
    have hSp : Shspec a (b[i]).f0 = (N, true) := by
      unfold Shspec
      rw [if_neg (by omega), if_neg (by omega), if_neg (by rw [vspec_of hla (chain_wide (by omega) ha)]; simp), s1]
    rw [hSp] at hSh
    have hAp := Apply_is (apGo text 0 (mg a (b.drop (i + 1)))) [⟨N, N + ((b[i]).f1 - (b[i]).f0), (b[i]).f2⟩] (by simp only [tot]; omega)
    have hAs : Apspec (apGo text 0 (mg a (b.drop (i + 1)))) [⟨N, N + ((b[i]).f1 - (b[i]).f0), (b[i]).f2⟩] = (apGo text 0 (mg a (b.drop i)), 0) := by
      have hch : Chain ((apGo text 0 (mg a (b.drop (i + 1)))).size : Int) none [⟨N, N + ((b[i]).f1 - (b[i]).f0), (b[i]).f2⟩] := ⟨s2, by show N ≤ N + ((b[i]).f1 - (b[i]).f0); omega, s3, (fun q hq => by cases hq), trivial⟩
      have hvs := vspec_of (by simp) hch
      unfold Apspec
      rw [if_pos hvs, s4, ← List.drop_eq_getElem_cons hlt]
    rw [hAs] at hAp
    have hw : wrap64 (wrap64 (N + (b[i]).f1) - (b[i]).f0) = N + ((b[i]).f1 - (b[i]).f0) := by rw [w64 (x := N + (b[i]).f1) (by omega) (by omega), w64 (by omega) (by omega)]; omega
    have hrd : rd_T42 b (((i + 1 : Nat) : Int) - 1) = b[i] := by rw [show ((i + 1 : Nat) : Int) - 1 = (i : Int) by omega]; exact rd_at b i hlt
    have hbody : Ev (fun k => (edits_Shift.f k a (b[i]).f0).bind fun bt447 => (if bt447.2 = true then ((edits_Apply.f k (apGo text 0 (mg a (b.drop (i + 1)))) [⟨bt447.1, wrap64 ((wrap64 (bt447.1 + (b[i]).f1)) - (b[i]).f0), (b[i]).f2⟩]).bind fun bt455 => (if bt455.2 = 0 then (monikerlaw1_EditsBoth.l0 k a b (apGo text 0 (mg a b)) bt455.1 ((i : Int) - 1)) else (some false))) else (some false))) true := by
      refine hSh.bind ?_
      simp only [if_true]
      rw [hw]
      refine hAp.bind ?_
      simpa using ih
    refine Ev.step (fun k => ?_) hbody
    simp only [monikerlaw1_EditsBoth.l0]
    rw [if_pos (by omega), if_pos (by omega), if_pos (by omega), hrd, show wrap64 (((i + 1 : Nat) : Int) - 1 - 1) = (i : Int) - 1 by rw [w64 (by omega) (by omega)]; omega]
theorem tot_mem' {l : List S42} {e : S42} (h : e ∈ l) : e.f2.size ≤ tot l := by
  obtain ⟨j, hj, rfl⟩ := List.mem_iff_getElem.1 h
  exact tot_le j hj
theorem joinR_tot : ∀ (L out : List S42), tot (joinR out L) ≤ tot out + tot L
  | [], out => by simp [joinR, tot]
  | e :: L, out => by
    rw [fold_cons]
    have h1 := joinR_tot L (joinE out e)
    have h2 := joinE_sz out e
    have e1 : ∀ l : List S42, sz l = tot l := fun l => by
      induction l with
      | nil => rfl
      | cons x l ih => simp only [sz, tot, ih]
    rw [e1, e1] at h2
    simp only [tot]
    omega
theorem merge_f (k : Nat) (size : Int) (a b : List S42) (h : sz a + sz b ≤ 1000000000) : edits_Merge.f k size a b = some (Mspec size a b) := by
  unfold edits_Merge.f
  rw [if_pos h]
theorem sz_tot : ∀ l : List S42, sz l = tot l
  | [] => rfl
  | e :: t => by simp only [sz, tot, sz_tot t]
theorem mchain_ends {size : Int} : ∀ {l : List S42} {p : Option Int}, Chain size p l → ∀ e ∈ l, 0 ≤ e.f0 ∧ e.f0 ≤ e.f1 ∧ e.f1 ≤ size
  | x :: t, p, ⟨c1, c2, c3, c4, c5⟩, e, he => by
    rcases List.mem_cons.1 he with rfl | he
    · exact ⟨c1, c2, c3⟩
    · exact mchain_ends c5 e he
/-- Merge, both lists valid. -/
theorem mspec_good (size : Int) (a b : List S42) (ha : Vspec size a = 0) (hb : Vspec size b = 0) : Mspec size a b = if okL (-1) (-1) (mg a b) = true then fin (joinR [] (mg a b)) else ([], 11) := by
  unfold Mspec mg
  rw [if_pos ha, if_pos hb]
theorem ok_comm (size : Int) (a b : List S42) (ha : Chain size none a) (hb : Chain size none b) (h : okL (-1) (-1) (mg a b) = true) : mg b a = mg a b := by
  have hle : ∀ e ∈ mg a b, e.f0 ≤ e.f1 := fun e he => by
    rcases (mg_mem a b e).1 he with h | h
    · exact (mchain_ends ha e h).2.1
    · exact (mchain_ends hb e h).2.1
  have hp := mergeL_pairs _ a b (Nat.le_refl _) (okL_far _ _ _ hle (by omega) h).2
  exact (mg_comm _ a b (Nat.le_refl _) (fun e he => (mchain_ends ha e he).2.1) (fun e he => (mchain_ends hb e he).2.1) hp).symm
theorem ok_swap (size : Int) (a b : List S42) (ha : Chain size none a) (hb : Chain size none b) : okL (-1) (-1) (mg b a) = okL (-1) (-1) (mg a b) := by
  cases h : okL (-1) (-1) (mg a b) with
  | true => rw [ok_comm size a b ha hb h, h]
  | false =>
    cases h2 : okL (-1) (-1) (mg b a) with
    | false => rfl
    | true => rw [← ok_comm size b a hb ha h2, h] at h2; cases h2
theorem okL_chain {size : Int} : ∀ (l : List S42) (en pt : Int), Chain size (if en < 0 then none else some en) l → pt ≤ en → okL en pt l = true
  | [], _, _, _, _ => rfl
  | e :: t, en, pt, ⟨c1, c2, c3, c4, c5⟩, hp => by
    have h1 : en < e.f0 := by
      by_cases q : en < 0
      · omega
      · rw [if_neg q] at c4
        exact c4 en rfl
    simp only [okL]
    rw [if_neg (by omega)]
    refine okL_chain (size := size) t e.f1 _ ?_ (by split <;> omega)
    rw [if_neg (by omega)]
    exact c5
theorem fin_eq (o : List S42) : fin o = if o.length > 65536 then ([], 2) else (o, 0) := rfl
theorem EditsBoth_is (text : ByteArray) (a b : List S42) (h : text.size + (tot a + tot b) ≤ 1048576) : Ev (fun k => monikerlaw1_EditsBoth.f k text a b) true := by
  unfold monikerlaw1_EditsBoth.f
  simp only [merge_f _ _ a b (by rw [sz_tot, sz_tot]; omega), merge_f _ _ b a (by rw [sz_tot, sz_tot]; omega), Option.bind_some]
  have hv : ∀ l, Vspec (text.size : Int) l = vspec text.size l := fun l => by
    unfold Vspec
    rw [if_neg (by omega), if_neg (by omega)]
  refine (Valid_is text.size a).bind ?_
  by_cases h1 : Vspec text.size a = 0
  · simp only [if_pos h1]
    refine (Valid_is text.size b).bind ?_
    by_cases h2 : Vspec text.size b = 0
    · obtain ⟨la, ca⟩ := vspec_zero (by rw [← hv]; exact h1)
      obtain ⟨lb, cb⟩ := vspec_zero (by rw [← hv]; exact h2)
      have hM1 := mspec_good text.size a b h1 h2
      have hM2 := mspec_good text.size b a h2 h1
      have hAlone : edits_Merge.f 0 (text.size : Int) a [] = some (a, 0) := by
        rw [merge_f _ _ _ _ (by rw [sz_tot, sz_tot]; simp only [tot]; omega), mspec_good text.size a [] h1 (by rw [hv]; exact vspec_of (by simp) trivial), mg_nil, if_pos (okL_chain a (-1) (-1) (by simpa using ca) (by omega)), joinR_self a [] (by simpa using ca), List.nil_append, fin_eq, if_neg (by omega)]
      obtain ⟨X, hX⟩ : ∃ X, Mspec (text.size : Int) a b = X := ⟨_, rfl⟩
      have hX2 : Mspec (text.size : Int) b a = X := by
        rw [← hX, hM1, hM2, ok_swap text.size a b ca cb]
        by_cases c : okL (-1) (-1) (mg a b) = true
        · rw [if_pos c, if_pos c, ok_comm text.size a b ca cb c]
        · rw [if_neg c, if_neg c]
      rw [hX, hX2, h2]
      have hXl : X.1.length ≤ 65536 := by
        rw [← hX, hM1]
        split
        · rw [fin_eq]
          split
          · simp
          · rename_i q; simp only; omega
        · simp
      refine Ev.step (f := fun k => (monikerplain_SameEdits.f k X.1 X.1).bind fun t436 => monikerlaw1_EditsBoth.j1 k text a b X.1 X.2 (!t436)) (fun k => by
        simp only [monikerlaw1_EditsBoth.j0]
        rw [if_pos (by rfl)]; simp only [if_true]) ?_
      refine (same_is X.1 (by omega)).bind ?_
      refine Ev.step (f := fun k => (edits_Merge.f k (text.size : Int) a []).bind fun bt437 => (if bt437.2 = 0 then ((monikerplain_SameEdits.f k bt437.1 a).bind fun t441 => (monikerlaw1_EditsBoth.j2 k text a b X.1 X.2 (!t441))) else (monikerlaw1_EditsBoth.j2 k text a b X.1 X.2 true))) (fun k => by
        simp only [monikerlaw1_EditsBoth.j1]
        rw [if_neg (by simp)]) ?_
      have hAl : ∀ k, edits_Merge.f k (text.size : Int) a [] = some (a, 0) := fun k => hAlone
      simp only [hAl, Option.bind_some, if_true]
      refine (same_is a (by omega)).bind ?_
      by_cases c : okL (-1) (-1) (mg a b) = true
      · rw [if_pos c, hX, fin_eq] at hM1
        by_cases c2 : (joinR [] (mg a b)).length > 65536
        · rw [if_pos c2] at hM1
          subst hM1
          refine Ev.step (f := fun _ => some true) (fun k => ?_) (Ev.now _)
          simp only [monikerlaw1_EditsBoth.j2]
          rw [if_neg (by simp), if_neg (by simp)]
          rfl
        · rw [if_neg c2] at hM1
          subst hM1
          have hends : ∀ e ∈ mg a b, e.f0 ≤ e.f1 ∧ e.f1 ≤ (text.size : Int) := fun e he => by
            rcases (mg_mem a b e).1 he with q | q
            · exact (mchain_ends ca e q).2
            · exact (mchain_ends cb e q).2
          have hstart : ∀ e t, mg a b = e :: t → 0 ≤ e.f0 := fun e t he => by
            have hm : e ∈ mg a b := by rw [he]; exact List.mem_cons_self
            rcases (mg_mem a b e).1 hm with q | q
            · exact (mchain_ends ca e q).1
            · exact (mchain_ends cb e q).1
          have hL : Loose text.size 0 (mg a b) := loose_first (loose_of_ok _ _ _ _ hends c) hstart
          have hCh := chain_joinR (size := text.size) (mg a b) [] trivial hL
          have hvx : vspec text.size (joinR [] (mg a b)) = 0 := vspec_of (by omega) hCh
          have hva : vspec text.size a = 0 := by rw [← hv]; exact h1
          have htx : tot (joinR [] (mg a b)) ≤ tot a + tot b := by
            have q := joinR_tot (mg a b) []
            rw [tot_mg _ a b (Nat.le_refl _)] at q
            simpa [tot] using q
          have hA1 := Apply_is text (joinR [] (mg a b)) (by omega)
          have hA2 := Apply_is text a (by omega)
          unfold Apspec at hA1 hA2
          rw [if_pos hvx] at hA1
          rw [if_pos hva] at hA2
          have hap := joinR_ap text 0 (mg a b) []
          rw [List.nil_append] at hap
          rw [hap] at hA1
          have hloop := (both_loop text (by omega) a b ca la lb (fun e he => by have := tot_mem' he; omega) cb hL (by omega) b.length (Nat.le_refl _)).2
          rw [List.drop_length, mg_nil] at hloop
          have hj3 : Ev (fun k => monikerlaw1_EditsBoth.j3 k a b (apGo text 0 (mg a b)) (apGo text 0 a) false) true := by
            refine Ev.step (fun k => ?_) hloop
            simp only [monikerlaw1_EditsBoth.j3]
            rw [if_neg (by simp), w64 (by omega) (by omega)]
          have hb : Ev (fun k => (edits_Apply.f k text (joinR [] (mg a b))).bind fun bt442 => ((edits_Apply.f k text a).bind fun bt444 => (if bt442.2 = 0 then (monikerlaw1_EditsBoth.j3 k a b bt442.1 bt444.1 (bt444.2 != 0)) else (monikerlaw1_EditsBoth.j3 k a b bt442.1 bt444.1 true)))) true := by
            refine hA1.bind ?_
            refine hA2.bind ?_
            simpa using hj3
          refine Ev.step (fun k => ?_) hb
          simp only [monikerlaw1_EditsBoth.j2]
          rw [if_neg (by simp), if_pos trivial]
      · rw [if_neg c, hX] at hM1
        subst hM1
        refine Ev.step (f := fun _ => some true) (fun k => ?_) (Ev.now _)
        simp only [monikerlaw1_EditsBoth.j2]
        rw [if_neg (by simp), if_neg (by simp)]
        rfl
    · have hM1 : Mspec (text.size : Int) a b = ([], Vspec text.size b) := by unfold Mspec; rw [if_pos h1, if_neg h2]
      have hM2 : Mspec (text.size : Int) b a = ([], Vspec text.size b) := by unfold Mspec; rw [if_neg h2]
      rw [hM1, hM2]
      refine Ev.step (f := fun _ => some true) (fun k => ?_) (Ev.now _)
      simp only [monikerlaw1_EditsBoth.j0]
      rw [if_neg (by simpa using h2), if_neg h2, if_neg h2]
      rfl
  · simp only [if_neg h1]
    have hM1 : Mspec (text.size : Int) a b = ([], Vspec text.size a) := by unfold Mspec; rw [if_neg h1]
    have hM2 : ∃ e, e ≠ 0 ∧ Mspec (text.size : Int) b a = ([], e) := by
      unfold Mspec
      by_cases h2 : Vspec text.size b = 0
      · rw [if_pos h2, if_neg h1]; exact ⟨_, h1, rfl⟩
      · rw [if_neg h2]; exact ⟨_, h2, rfl⟩
    obtain ⟨e, he, hM2⟩ := hM2
    rw [hM1, hM2]
    refine Ev.step (f := fun _ => some true) (fun k => ?_) (Ev.now _)
    simp only [monikerlaw1_EditsBoth.j0]
    rw [if_neg (by simp), if_neg h1, if_neg he]
    rfl
end Go.Proofs.Ytaihajmdngoeiaa.Q

namespace Go.Proofs.Ytaihajmdngoeiaa.O
open Go.ChangeShapes Go.WideShapes Go.Deep Go.Proofs.YtaihajmdngoeiaaW.PrintWords

theorem mem_weightsAll {H : Type} {P : Program} {e : TypeId} : ∀ {l : List (DataW H)} {y : DataW H}, y ∈ l → ∀ n ∈ y.weights P e, n ∈ DataW.weightsAll P e l
  | y0 :: l, y, h, n, hn => by
    simp only [DataW.weightsAll, List.mem_append]
    rcases List.mem_cons.1 h with rfl | h
    · exact .inl hn
    · exact .inr (mem_weightsAll h n hn)

end Go.Proofs.Ytaihajmdngoeiaa.O

namespace Go.Proofs.Ytaihajmdngoeiaa.O
open Go.ChangeShapes Go.WideShapes Go.Deep Go.Proofs.YtaihajmdngoeiaaW.PrintWords Go.Proofs.Ytaihajmdngoeiaa
set_option linter.unusedVariables false

section
variable {H : Type} {enc : TypeId × Value → H}
/-- The wrap of a row with a condition of its specification's own, the reach handed on. -/
theorem returns_upto {a : Assume} {C : Checked} {os : Os} {f : FuncId} {fn : Func} {s : OpenSpec} {k : (H : Type) → List (DataW H) → Bool} (hk : s.cond = some k) {F : Stop.Interp} {conds : List PathCond} {apart fresh handsOn again : Bool}
    (own : ownKnob C.prog.godebug = none) (started : os.Started) (noInit : C.prog.inits.idxOf? f = none) (hfn : C.prog.funcs[f]? = some fn)
    (witness : ∃ (w : World) (tape : Tape) (i : Input), w.os = os ∧ (w.forCall tape i).Shaped C.prog ∧ i.vars = [] ∧ Input.okWide C.prog (w.forCall tape i) .any w.heap.size f i ∧
      s.pre6 enc C.prog fn conds apart (w.forCall tape i).memory i.args ∧ a.holds C.prog (lone (Frame.enter C.prog f i.args .normal) [] (w.forCall tape i)))
    (contract : ∀ (W : World) (base : Nat) (args : Array Value) (ds gs : List (DataW H)) (before : List MemPlace),
      (∀ (j : Nat) t v, fn.params[j]? = some t → args[j]? = some v → Value.okWide C.prog W .any base t v) →
      DataW.Whole enc C.prog fn.params.toList s.vars apart W args.toList ds gs before →
      conds.all (PathCond.test C.prog ⟨fn.params.toList, ds, s.bare.plain.varTypes C.prog, gs⟩) = true → k H (ds ++ gs) = true →
      (DataW.weightsEach C.prog (fn.params.toList ++ s.bare.plain.varTypes C.prog) (ds ++ gs)).all (· ≤ reachBytes) = true →
      a.holds C.prog (lone (Frame.enter C.prog f args .normal) [] W) →
      Calls C.prog f args W fun e W' => ∃ v, e = .returned v ∧ (s.at F).post enc C.prog fn apart fresh handsOn again W args v W') :
    ReturnsInHanded a C os f .any (s.pre6 enc C.prog fn conds apart) ((s.at F).post enc C.prog fn apart fresh handsOn again) := by
  refine returnsInHanded_of_calls own started noInit witness ?_
  intro w tape i _ _ _ hok hpre hholds
  obtain ⟨_, _, _, fn', hfn', _, _, _, _, hval⟩ := hok
  have e : fn' = fn := Option.some.inj (hfn'.symm.trans hfn)
  subst e
  obtain ⟨ds, gs, before, hw, hc, hkk⟩ := (OpenSpec.pre_some hk conds apart _ _).1 hpre.1
  have hw' := DataW.Whole.of_heap (w' := w.forCall tape i) (by rfl) hw
  have hz := hpre.2
  refine (contract (w.forCall tape i) w.heap.size i.args ds gs before hval hw' hc hkk (hz.weights hw) hholds).mono fun e W' ⟨v, he, hp⟩ => ?_
  subst he
  exact ChangeSpec.post_blind hp
end

theorem witnessU {H : Type} {enc : TypeId × Value → H} {C : Checked} {os : Os} {f : FuncId} {fn : Func} {s : OpenSpec} {k : (H : Type) → List (DataW H) → Bool} (hk : s.cond = some k) {conds : List PathCond} {apart : Bool} (modest : Bool) (i : Input) (fuel : Nat)
    (hv : (World.plainHolding C.prog os i).variablesB C.prog = true)
    (hr : ((World.plainHolding C.prog os i).heap.toList.drop C.prog.globals.size).take ((begin C.prog (fun _ _ => 0) default).world.heap.size - C.prog.globals.size) =
      (begin C.prog (fun _ _ => 0) default).world.heap.toList.drop C.prog.globals.size)
    (hok : Input.okWideB C.prog (World.plainHolding C.prog os i) f ⟨#[], i.args, []⟩ = true)
    (hB : (match DataW.whole enc C.prog (World.plainHolding C.prog os i).memory fn.params.toList s.vars apart i.args.toList fuel with
      | some x => conds.all (PathCond.test C.prog ⟨fn.params.toList, x.1, s.bare.plain.varTypes C.prog, x.2.1⟩) && k H (x.1 ++ x.2.1)
      | none => false) = true)
    (hsz : s.bare.sizedB enc C.prog fn apart (World.plainHolding C.prog os i).memory i.args fuel = true) :
    ∃ (w : World) (tape : Tape) (i : Input), w.os = os ∧ (w.forCall tape i).Shaped C.prog ∧ i.vars = [] ∧ Input.okWide C.prog (w.forCall tape i) .any w.heap.size f i ∧
      s.pre6 enc C.prog fn conds apart (w.forCall tape i).memory i.args ∧ ({ modest := modest } : Assume).holds C.prog (lone (Frame.enter C.prog f i.args .normal) [] (w.forCall tape i)) := by
  cases hx : DataW.whole enc C.prog (World.plainHolding C.prog os i).memory fn.params.toList s.vars apart i.args.toList fuel with
  | none => rw [hx] at hB; cases hB
  | some x =>
    rw [hx] at hB
    have h := (Bool.and_eq_true _ _).mp hB
    exact OpenSpec.witness hk modest i fuel hv hr hok hx h.1 h.2 hsz

/-- As Opens; and the value is no heavier than the reading's bulk. -/
def OpensU {α : Type} (P : Program) (t : TypeId) (d : Kd α) (B : α → Prop) (m : α → Nat) : Prop :=
  ∀ {H : Type} {enc : TypeId × Value → H} {w : World} {base : Nat} {spare : Nat → Bool} {held : Bool} {fuel : Nat} {cs : List Value} {x : DataW H × List MemPlace},
    DataW.trod enc P w base spare held fuel t cs = some x → (∀ n ∈ x.1.weights P t, n ≤ reachBytes) → ∃ a, d.K w a cs ∧ B a ∧ m a ≤ Rows.uptoBulk x.1

theorem opens_intU {P : Program} {t : TypeId} {k : IntKind} (hu : P.underlying t = some (.int k)) : OpensU P t (Kd.int k) (fun n => (Lit.int k n).wf = true) (fun _ => 1) := fun h _ => by
  obtain ⟨n, rfl, rfl, hw⟩ := DataW.trod_int hu h
  exact ⟨n, rfl, hw, by simp [Rows.uptoBulk]⟩
theorem opens_stringU {P : Program} {t : TypeId} (hu : P.underlying t = some .string) : OpensU P t Kd.string (fun s => s.size ≤ 140737488351232) (fun s => s.size + 1) := fun h hw => by
  obtain ⟨s, rfl, rfl, _⟩ := DataW.trod_string hu h
  have e : s.data.toList.length = s.size := by rw [Array.length_toList]; rfl
  refine ⟨s, rfl, ?_, by simp only [Rows.uptoBulk]; omega⟩
  have := hw s.data.toList.length (by simp [DataW.weights])
  rw [e] at this
  exact this

theorem bulkAll_snoc {H : Type} : ∀ (l : List (DataW H)) (d : DataW H), Rows.uptoBulkAll (l ++ [d]) = Rows.uptoBulkAll l + Rows.uptoBulk d
  | [], d => by simp [Rows.uptoBulkAll]
  | x :: l, d => by simp only [List.cons_append, Rows.uptoBulkAll, bulkAll_snoc l d]; omega
def sumM {α : Type} (m : α → Nat) : List α → Nat
  | [] => 0
  | a :: l => m a + sumM m l
theorem sumM_snoc {α : Type} (m : α → Nat) : ∀ (l : List α) (a : α), sumM m (l ++ [a]) = sumM m l + m a
  | [], a => by simp [sumM]
  | x :: l, a => by simp only [List.cons_append, sumM, sumM_snoc m l a]; omega

theorem open_rowU {α : Type} {P : Program} {t e : TypeId} {d : Kd α} {B : α → Prop} {M : α → Nat} (hu : P.underlying t = some (.slice e)) (he : OpensU P e d B M) (hc : P.cellsOf e = d.sz)
    {H : Type} {enc : TypeId × Value → H} {w : World} {base : Nat} {spare : Nat → Bool} {held : Bool} {fuel : Nat} {A : Option Addr} {n c : Nat} {x : DataW H × List MemPlace}
    (h : DataW.trod enc P w base spare held fuel t [.slice A n c] = some x) (hw : ∀ n ∈ x.1.weights P t, n ≤ reachBytes) :
    ∃ xs : List α, xs.length = n ∧ d.C w A n xs ∧ n ≤ c ∧ (A = none → c = 0) ∧ (∀ a ∈ xs, B a) ∧ n * P.bytesOf e ≤ 140737488351232 ∧ sumM M xs + 1 ≤ Rows.uptoBulk x.1 := by
  rcases open_slice hu h with ⟨hcs, rfl⟩ | ⟨a, len, cap, m, fu, D, Pl, hcs, hb, hl, hm, hmm, rfl, hel⟩
  · simp only [List.cons.injEq, Value.slice.injEq, and_true] at hcs
    obtain ⟨rfl, rfl, rfl⟩ := hcs
    exact ⟨[], rfl, ⟨rfl, by omega, fun h0 => absurd h0 (by omega)⟩, by omega, fun _ => rfl, (fun a ha => by cases ha), by omega, by simp [sumM, Rows.uptoBulk]⟩
  · simp only [List.cons.injEq, Value.slice.injEq, and_true] at hcs
    obtain ⟨rfl, rfl, rfl⟩ := hcs
    have hlm : n ≤ m := by rw [hmm]; split <;> omega
    have hex : ∀ i, i < n → ∃ v : α, (∃ cs, d.K w v cs ∧ ∀ j u, cs[j]? = some u → w.cell? (a.add (i * d.sz + j)) = some u) ∧ B v ∧ M v ≤ Rows.uptoBulk (D i) := by
      intro i hi
      obtain ⟨cs', hc1, hc2⟩ := hel i (by omega)
      have hmem : D i ∈ (List.range n).map D := List.mem_map.2 ⟨i, List.mem_range.2 hi, rfl⟩
      obtain ⟨v, hv, hB, hM⟩ := he hc2 (fun q hq => hw q (by
        simp only [DataW.weights, hu, List.mem_cons, List.mem_append]
        exact .inr (.inl (mem_weightsAll hmem q hq))))
      refine ⟨v, ⟨cs', hv, fun j u hj => ?_⟩, hB, hM⟩
      obtain ⟨_, hcl, hat⟩ := World.cells?_some hc1
      have hjl : j < cs'.length := (List.getElem?_eq_some_iff.1 hj).1
      have := hat j (by omega)
      rw [hc] at this
      rw [← Go.Deep.add_add, this, hj]
    have key : ∀ k, k ≤ n → ∃ xs : List α, xs.length = k ∧ (∀ j p, xs[j]? = some p → (∃ cs, cs.length = d.sz ∧ d.K w p cs ∧ ∀ i u, cs[i]? = some u → w.cell? (a.add (j * d.sz + i)) = some u) ∧ B p) ∧ sumM M xs ≤ Rows.uptoBulkAll ((List.range k).map D) := by
      intro k
      induction k with
      | zero => intro _; exact ⟨[], rfl, fun j p hj => by simp at hj, by simp [sumM]⟩
      | succ k ih =>
        intro hk
        obtain ⟨xs, hx, hxs, hsum⟩ := ih (by omega)
        obtain ⟨v, ⟨cs, hv, hcell⟩, hB, hM⟩ := hex k (by omega)
        refine ⟨xs ++ [v], by simp [hx], fun j p hj => ?_, ?_⟩
        · rcases Nat.lt_or_ge j k with hjk | hjk
          · rw [List.getElem?_append_left (by omega)] at hj
            exact hxs j p hj
          · have hjl := (List.getElem?_eq_some_iff.1 hj).1
            rw [List.length_append, List.length_singleton] at hjl
            obtain rfl : j = k := by omega
            have hp : v = p := by simpa [List.getElem?_append_right, hx] using hj
            subst hp
            exact ⟨⟨cs, d.K_len hv, hv, hcell⟩, hB⟩
        · rw [sumM_snoc, List.range_succ, List.map_append, List.map_cons, List.map_nil, bulkAll_snoc]
          omega
    obtain ⟨xs, hx, hxs, hsum⟩ := key n (Nat.le_refl _)
    refine ⟨xs, hx, ⟨hx, by have : maxLen = 9223372036854775807 := rfl; omega, fun _ => ⟨a, rfl, fun j p hj => (hxs j p hj).1⟩⟩, hl, (fun h => by cases h), fun v hv => ?_, ?_, ?_⟩
    · obtain ⟨j, hj, rfl⟩ := List.mem_iff_getElem.1 hv
      exact (hxs j _ (List.getElem?_eq_getElem hj)).2
    · have := hw ((((List.range n).map D).length + ((List.range (m - n)).map fun j => D (n + j)).length) * P.bytesOf e) (by
        simp only [DataW.weights, hu]
        exact List.mem_cons_self)
      simp only [List.length_map, List.length_range] at this
      have h2 : n * P.bytesOf e ≤ (n + (m - n)) * P.bytesOf e := Nat.mul_le_mul_right _ (by omega)
      have h3 : reachBytes = 140737488351232 := rfl
      omega
    · simp only [Rows.uptoBulk]
      omega
end Go.Proofs.Ytaihajmdngoeiaa.O

namespace Go.Proofs.Ytaihajmdngoeiaa.H
open Go.ChangeShapes Go.WideShapes Go.Deep Go.Proofs.YtaihajmdngoeiaaW.PrintWords Go.Proofs.Ytaihajmdngoeiaa.F

def B42 (x : S42) : Prop := (Lit.int .i64 x.f0).wf = true ∧ (Lit.int .i64 x.f1).wf = true ∧ x.f2.size ≤ 140737488351232
theorem cells42 : Try.prog.cellsOf 42 = 3 := by kernel_rfl
theorem cells3 : Try.prog.cellsOf 3 = 1 := by kernel_rfl
theorem cells9 : Try.prog.cellsOf 9 = 1 := by kernel_rfl
theorem bytes42 : Try.prog.bytesOf 42 = 32 := by kernel_rfl
end Go.Proofs.Ytaihajmdngoeiaa.H

namespace Go.Proofs.Ytaihajmdngoeiaa.H
open Go.ChangeShapes Go.WideShapes Go.Deep Go.Proofs.YtaihajmdngoeiaaW.PrintWords Go.Proofs.Ytaihajmdngoeiaa.F Go.Proofs.Ytaihajmdngoeiaa
theorem opens42U : O.OpensU Try.prog 42 k42 B42 (fun x => x.f2.size + 4) := by
  intro H enc w base spare held fuel cs x h hw
  obtain ⟨ys, n, rfl, rfl, hlen, hyl, hf⟩ := DataW.trod_struct Try.underlying42 h
  rw [cells42] at hlen
  obtain ⟨c0, c1, c2, rfl⟩ : ∃ a b c, cs = [a, b, c] := by
    match cs, hlen with
    | [a, b, c], _ => exact ⟨a, b, c, rfl⟩
  obtain ⟨y0, y1, y2, rfl⟩ : ∃ a b c, ys = [a, b, c] := by
    match ys, hyl with
    | [a, b, c], _ => exact ⟨a, b, c, rfl⟩
  have f0 := hf 0 { name := "From", type := 3, offset := 0, embedded := false, tag := "", pkgPath := "", byteOffset := 0 } rfl
  have f1 := hf 1 { name := "To", type := 3, offset := 1, embedded := false, tag := "", pkgPath := "", byteOffset := 8 } rfl
  have f2 := hf 2 { name := "Text", type := 9, offset := 2, embedded := false, tag := "", pkgPath := "", byteOffset := 16 } rfl
  simp only [cells3, cells9, List.drop_zero, List.drop_succ_cons, List.take_succ_cons, List.take_zero, List.getElem?_cons_zero, List.getElem?_cons_succ] at f0 f1 f2
  have hq : ∀ (j : Nat) (t : TypeId) (d : DataW H), [3, 3, 9][j]? = some t → [y0.1, y1.1, y2.1][j]? = some d → ∀ n ∈ d.weights Try.prog t, n ≤ reachBytes := by
    intro j t d h1 h2 q hq
    refine hw q ?_
    simp only [DataW.weights, Try.underlying42]
    exact DataW.weights_mem_each (j := j) h1 h2 q hq
  obtain ⟨a0, e0, w0, m0⟩ := O.opens_intU Try.underlying3 f0 (hq 0 _ _ rfl rfl)
  obtain rfl : c0 = .int .i64 a0 := (List.cons.inj e0).1
  obtain ⟨a1, e1, w1, m1⟩ := O.opens_intU Try.underlying3 f1 (hq 1 _ _ rfl rfl)
  obtain rfl : c1 = .int .i64 a1 := (List.cons.inj e1).1
  obtain ⟨a2, e2, w2, m2⟩ := O.opens_stringU Try.underlying9 f2 (hq 2 _ _ rfl rfl)
  obtain rfl : c2 = .string a2 := (List.cons.inj e2).1
  refine ⟨⟨a0, a1, a2⟩, k42_mk w _, ⟨w0, w1, w2⟩, ?_⟩
  show a2.size + 4 ≤ Rows.uptoBulk (DataW.agg [y0.1, y1.1, y2.1])
  simp only [Rows.uptoBulk, Rows.uptoBulkAll]
  simp only at m0 m1 m2
  generalize Rows.uptoBulk y0.1 = z0 at m0 ⊢
  generalize Rows.uptoBulk y1.1 = z1 at m1 ⊢
  generalize Rows.uptoBulk y2.1 = z2 at m2 ⊢
  omega
end Go.Proofs.Ytaihajmdngoeiaa.H

namespace Go.Proofs.Ytaihajmdngoeiaa.L
open Go.RowKit Go.Proofs.YtaihajmdngoeiaaW.PrintWords Go.Proofs.YtaihajmdngoeiaaW.PrintLast Go.Proofs.YtaihajmdngoeiaaW.PrintMore
open Go.Proofs.Ytaihajmdngoeiaa.F Go.Proofs.Ytaihajmdngoeiaa.H
set_option linter.unusedVariables false
set_option linter.unusedSimpArgs false

theorem tot_wt : ∀ (l : List S42), Q.tot l + 4 * l.length = O.sumM (fun x => x.f2.size + 4) l
  | [] => rfl
  | x :: l => by
    have := tot_wt l
    simp only [Q.tot, O.sumM, List.length_cons]
    omega
theorem both_walk (a0 : ByteArray) (A1 : Option Addr) (c1 : Nat) (l1 : List S42) (A2 : Option Addr) (c2 : Nat) (l2 : List S42) (w : World) (hs : a0.size ≤ 140737488351232)
    (hr1 : Kd.C k42 w A1 l1.length l1) (hc1 : l1.length ≤ c1) (hn1 : A1 = none → c1 = 0) (hB1 : ∀ x ∈ l1, B42 x) (hb1 : l1.length * 32 ≤ 140737488351232)
    (hr2 : Kd.C k42 w A2 l2.length l2) (hc2 : l2.length ≤ c2) (hn2 : A2 = none → c2 = 0) (hB2 : ∀ x ∈ l2, B42 x) (hb2 : l2.length * 32 ≤ 140737488351232)
    (hu : (a0.size + 1) + ((O.sumM (fun x => x.f2.size + 4) l1 + 1) + (O.sumM (fun x => x.f2.size + 4) l2 + 1)) ≤ 1048576) :
    Calls Try.prog 11 #[.string a0, .slice A1 l1.length c1, .slice A2 l2.length c2] w fun e w' => e = .returned (.bool true) ∧ Below w.heap.size w w' := by
  rw [← tot_wt, ← tot_wt] at hu
  obtain ⟨k, hk⟩ := (Q.EditsBoth_is a0 l1 l2 (by omega)).rounds
  exact monikerlaw1_EditsBoth.calls k a0 A1 c1 l1 A2 c2 l2 true w hr1 hc1 hr2 hc2 hk
end Go.Proofs.Ytaihajmdngoeiaa.L


namespace Go.Proofs.Ytaihajmdngoeiaa.editsBoth
open Go.ChangeShapes Go.WideShapes Go.ChangeAt Go.RowKit Go.Proofs.Ytaihajmdngoeiaa
open Go.ChangeMaps (open_string shut_string)
set_option linter.unusedVariables false
theorem own : ownKnob Try.prog.godebug = none := by kernel_rfl
theorem laidOut : laidOutB Try.prog = true := by kernel_rfl
set_option maxRecDepth 100000 in
theorem lifted (os : Os) (started : os.Started) (H : Type) (enc : TypeId × Value → H) (F : Stop.Interp) :
    ReturnsInHanded {} Try.checked os 11 .any ((Rows.OpenSpec.upto Rows.editsBothSpec).pre6 enc Try.prog Try.f11 Rows.editsBothUptoRow.domain false) (((Rows.OpenSpec.upto Rows.editsBothSpec).at F).post enc Try.prog Try.f11 false true false false) := by
  refine O.returns_upto (k := Rows.uptoSmall) (s := Rows.OpenSpec.upto Rows.editsBothSpec) rfl (C := Try.checked) own started (by kernel_rfl) Try.func11
    (O.witnessU (enc := enc) (C := Try.checked) (s := Rows.OpenSpec.upto Rows.editsBothSpec) rfl false ⟨#[], #[.string ByteArray.empty, .slice none 0 0, .slice none 0 0], []⟩ 8 (by kernel_rfl) (by kernel_rfl) (by kernel_rfl) (by kernel_rfl) (by kernel_rfl)) ?_
  intro W base args ds gs before hval0 hW hcnd hk0 hsz0 _
  have hsz : (DataW.weightsEach Try.prog (Try.f11.params.toList ++ Rows.editsBothSpec.plain.varTypes Try.prog) (ds ++ gs)).all (· ≤ reachBytes) = true := hsz0
  have hval : ∀ (j : Nat) t v, Try.f11.params[j]? = some t → args[j]? = some v → Value.okWide Try.prog W .any base t v := hval0
  have hW' := hW
  obtain ⟨p, q, hA0, hV, rfl, hfz, hnd⟩ := hW
  have hA : DataW.TrodAll enc Try.prog W 0 (fun _ => true) true Try.f11.params.toList args.toList ds p := hA0
  rw [Try.params11] at hA hval hsz
  obtain ⟨v0, vs0, d0, ds0, p0, q0, hargs, rfl, rfl, h0, r0⟩ := trodAll_cons hA
  obtain ⟨v1, vs1, d1, ds1, p1, q1, rfl, rfl, rfl, h1, r1⟩ := trodAll_cons r0
  obtain ⟨v2, vs2, d2, ds2, p2, q2, rfl, rfl, rfl, h2, r2⟩ := trodAll_cons r1
  obtain ⟨rfl, rfl, rfl⟩ := trodAll_nil r2
  obtain rfl : args = #[v0, v1, v2] := by cases args; simp_all
  obtain ⟨rfl, rfl⟩ := trodVars_none hV
  have hbulk : Rows.uptoBulkAll ([d0, d1, d2] ++ []) ≤ 1048576 := of_decide_eq_true hk0
  simp only [List.append_nil, Rows.uptoBulkAll, Nat.add_zero] at hbulk
  obtain ⟨a0, rfl, rfl, rfl, y0⟩ := open_string Try.underlying9 (hval 0 9 v0 rfl rfl) h0
  have w0 : a0.size ≤ 140737488351232 := by
    have z := sized_string hsz (j := 0) (t := 9) rfl rfl
    rw [Array.length_toList] at z
    exact z
  have hm0 : a0.size + 1 ≤ Rows.uptoBulk (DataW.lit (H := H) (.string a0.data.toList)) := by simp only [Rows.uptoBulk]; rw [Array.length_toList]; exact Nat.le_refl _
  obtain ⟨a1, len1, cap1, rfl⟩ := okWide_slice Try.underlying22 (hval 1 22 v1 rfl rfl)
  have k1 := h1
  have lt1 : ∀ x ∈ p1, x.block < W.heap.size := by obtain ⟨m, hm⟩ := k1; exact DataW.trod_lt m _ _ _ hm
  obtain ⟨fu1, hf1⟩ := h1
  have hg1 : DataW.trod enc Try.prog W 0 (fun _ => true) true fu1 22 [.slice a1 len1 cap1] = some (d1, p1) := by simpa [Value.cells] using hf1
  have hq1 : ∀ n ∈ DataW.weights Try.prog 22 d1, n ≤ reachBytes := fun n hn => of_decide_eq_true (List.all_eq_true.1 hsz n (DataW.weights_mem_each (j := 1) rfl rfl n hn))
  obtain ⟨l1, rfl, hC1, hc1, hn1, hB1, hb1, hm1⟩ := O.open_rowU Try.underlying22 Go.Proofs.Ytaihajmdngoeiaa.H.opens42U Go.Proofs.Ytaihajmdngoeiaa.H.cells42 hg1 hq1
  rw [Go.Proofs.Ytaihajmdngoeiaa.H.bytes42] at hb1
  obtain ⟨a2, len2, cap2, rfl⟩ := okWide_slice Try.underlying22 (hval 2 22 v2 rfl rfl)
  have k2 := h2
  have lt2 : ∀ x ∈ p2, x.block < W.heap.size := by obtain ⟨m, hm⟩ := k2; exact DataW.trod_lt m _ _ _ hm
  obtain ⟨fu2, hf2⟩ := h2
  have hg2 : DataW.trod enc Try.prog W 0 (fun _ => true) true fu2 22 [.slice a2 len2 cap2] = some (d2, p2) := by simpa [Value.cells] using hf2
  have hq2 : ∀ n ∈ DataW.weights Try.prog 22 d2, n ≤ reachBytes := fun n hn => of_decide_eq_true (List.all_eq_true.1 hsz n (DataW.weights_mem_each (j := 2) rfl rfl n hn))
  obtain ⟨l2, rfl, hC2, hc2, hn2, hB2, hb2, hm2⟩ := O.open_rowU Try.underlying22 Go.Proofs.Ytaihajmdngoeiaa.H.opens42U Go.Proofs.Ytaihajmdngoeiaa.H.cells42 hg2 hq2
  rw [Go.Proofs.Ytaihajmdngoeiaa.H.bytes42] at hb2
  clear hA0 hval0 hsz0 hsz
  refine (L.both_walk a0 a1 cap1 l1 a2 cap2 l2 W w0 hC1 hc1 hn1 hB1 hb1 hC2 hc2 hn2 hB2 hb2 (Nat.le_trans (Nat.add_le_add hm0 (Nat.add_le_add hm1 hm2)) hbulk)).mono fun e W' ⟨he, bel⟩ => ?_
  subst he
  exact ⟨_, rfl, _, _, _, [], _, [], hW', trodAll_mk1 (shut_bool Try.underlying4 _), (trodAll_cons_mk (shut_string Try.underlying9 y0) (trodAll_cons_mk (Below.trod laidOut (by kernel_rfl) (of_decide_eq_true (by kernel_rfl)) k1 bel lt1) (trodAll_cons_mk (Below.trod laidOut (by kernel_rfl) (of_decide_eq_true (by kernel_rfl)) k2 bel lt2) trodAll_mk0))), rfl, bel.frame _, fun h => by cases h⟩
theorem over : Rows.editsBothUptoRow.holds Try.pinned (Rows.OpenSpec.upto Rows.editsBothSpec) :=
  OpenClaim.holds_of_cond 11 Try.f11 rfl rfl rfl rfl rfl rfl rfl ⟨rfl, rfl, rfl, rfl, rfl⟩ rfl rfl rfl rfl rfl (by kernel_rfl) Try.func11 (by kernel_rfl)
    (of_decide_eq_true (by kernel_rfl)) (by unfold Func.isWrapper; first | (rw [if_pos (by decide +kernel)]; kernel_rfl) | (rw [if_neg (by decide +kernel)]; exact ⟨rfl, rfl⟩))
    (fun os started H enc _ F => lifted os started H enc F)
theorem proved : Rows.EditsBothUptoSaid := over
#print axioms proved
end Go.Proofs.Ytaihajmdngoeiaa.editsBoth
namespace Go.Proofs.Ytaihajmdngoeiaa
/-- The row, under a short name, for the claim. -/
theorem editsBoth_holds : Rows.EditsBothUptoSaid := editsBoth.proved
end Go.Proofs.Ytaihajmdngoeiaa
