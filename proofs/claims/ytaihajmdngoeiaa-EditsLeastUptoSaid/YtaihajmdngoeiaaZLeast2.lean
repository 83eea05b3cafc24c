/- The law EditsLeast of package monikerlaw holds of the given program: called with any arguments that can be read as data, together of bulk at most 1048576, it returns true, and its arguments read behind the call as before. Conditions: those of the given row '..Upto', no others. -/
import Derived.Test.YtaihajmdngoeiaaZLeast1
import Derived.Test.YtaihajmdngoeiaaWMore
import Derived.SizedLaws
import Derived.ChangeSlices
import Derived.Deep.Slices
import Derived.Test.YtaihajmdngoeiaaRows
import Derived.JoinedCond
import Derived.ChangeArms
import Derived.WalkKit
import Derived.ProofKit
import Derived.OpenShut
import Derived.ShutString
import Derived.ChangeOld
import Derived.Below
-- A text of this session's own program (wip/myprint.sh over a changed print tool): functions and their walks
namespace Go.Proofs.Ytaihajmdngoeiaa.F
open Go.RowKit Go.Proofs.YtaihajmdngoeiaaW.PrintWords Go.Proofs.YtaihajmdngoeiaaW.PrintLast Go.Proofs.YtaihajmdngoeiaaW.PrintMore
attribute [local go_sem] max2_int min2_int max_two min_two max_three min_three max_four min_four   -- for this text's walks alone
set_option linter.unusedVariables false
set_option linter.unusedSimpArgs false

/-! ### monikerlaw1_EditsLeast: function 10 -/
mutual
def monikerlaw1_EditsLeast.j0 : Nat → ByteArray → List (S42) → ByteArray → Bool → Option (Bool)
  | 0, _, _, _, _ => none
  | k + 1, x0, x5, x7, x80 => if x80 = true then (some false) else (if (x5.length : Int) = 0 then (monikerlaw1_EditsLeast.j1 k x0 x5 (x7.toList != x0.toList)) else (monikerlaw1_EditsLeast.j1 k x0 x5 false))
def monikerlaw1_EditsLeast.j1 : Nat → ByteArray → List (S42) → Bool → Option (Bool)
  | 0, _, _, _ => none
  | k + 1, x0, x5, x88 => if x88 = true then (some false) else (monikerlaw1_EditsLeast.l0 k x0 x5 (x5.length : Int) 0)
def monikerlaw1_EditsLeast.l0 : Nat → ByteArray → List (S42) → Int → Int → Option (Bool)
  | 0, _, _, _, _ => none
  | k + 1, x0, x89, x90, x91 => if x91 < x90 then (if 0 ≤ x91 then (if x91 < (x89.length : Int) then (if 0 ≤ ((rd_T42 x89 x91).f0) then (if ((rd_T42 x89 x91).f0) ≤ ((rd_T42 x89 x91).f1) then (if ((rd_T42 x89 x91).f1) ≤ (x0.size : Int) then (if (x0.extract (((rd_T42 x89 x91).f0) : Int).toNat (((rd_T42 x89 x91).f1) : Int).toNat).toList = ((rd_T42 x89 x91).f2).toList then (some false) else (if (x0.extract (((rd_T42 x89 x91).f0) : Int).toNat (((rd_T42 x89 x91).f1) : Int).toNat).toList = ([] : List UInt8) then (monikerlaw1_EditsLeast.l0 k x0 x89 x90 (wrap64 (x91 + 1))) else (if ((rd_T42 x89 x91).f2).toList = ([] : List UInt8) then (monikerlaw1_EditsLeast.l0 k x0 x89 x90 (wrap64 (x91 + 1))) else (if 0 < ((x0.extract (((rd_T42 x89 x91).f0) : Int).toNat (((rd_T42 x89 x91).f1) : Int).toNat).size : Int) then (if 0 < (((rd_T42 x89 x91).f2).size : Int) then (if (bt (x0.extract (((rd_T42 x89 x91).f0) : Int).toNat (((rd_T42 x89 x91).f1) : Int).toNat) 0) = (bt ((rd_T42 x89 x91).f2) 0) then (some false) else (if 0 ≤ (wrap64 (((x0.extract (((rd_T42 x89 x91).f0) : Int).toNat (((rd_T42 x89 x91).f1) : Int).toNat).size : Int) - 1)) then (if (wrap64 (((x0.extract (((rd_T42 x89 x91).f0) : Int).toNat (((rd_T42 x89 x91).f1) : Int).toNat).size : Int) - 1)) < ((x0.extract (((rd_T42 x89 x91).f0) : Int).toNat (((rd_T42 x89 x91).f1) : Int).toNat).size : Int) then (if 0 ≤ (wrap64 ((((rd_T42 x89 x91).f2).size : Int) - 1)) then (if (wrap64 ((((rd_T42 x89 x91).f2).size : Int) - 1)) < (((rd_T42 x89 x91).f2).size : Int) then (if (bt (x0.extract (((rd_T42 x89 x91).f0) : Int).toNat (((rd_T42 x89 x91).f1) : Int).toNat) (wrap64 (((x0.extract (((rd_T42 x89 x91).f0) : Int).toNat (((rd_T42 x89 x91).f1) : Int).toNat).size : Int) - 1))) = (bt ((rd_T42 x89 x91).f2) (wrap64 ((((rd_T42 x89 x91).f2).size : Int) - 1))) then (some false) else (monikerlaw1_EditsLeast.l0 k x0 x89 x90 (wrap64 (x91 + 1)))) else (none)) else (none)) else (none)) else (none))) else (none)) else (none))))) else (none)) else (none)) else (none)) else (none)) else (none)) else (some true)
end
def monikerlaw1_EditsLeast.f (k : Nat) (a0 : ByteArray) (l1 : List (S42)) : Option (Bool) := (edits_Normal.f k a0 l1).bind fun bt399 => (if bt399.2 = 0 then ((edits_Apply.f k a0 l1).bind fun bt404 => ((edits_Apply.f k a0 bt399.1).bind fun bt406 => ((edits_Normal.f k a0 bt399.1).bind fun bt408 => (if bt404.2 = 0 then (if bt406.2 = 0 then (if bt408.2 = 0 then (if bt404.1.toList = bt406.1.toList then (if (bt399.1.length : Int) > (l1.length : Int) then (monikerlaw1_EditsLeast.j0 k a0 bt399.1 bt404.1 true) else ((monikerplain_SameEdits.f k bt408.1 bt399.1).bind fun t412 => (monikerlaw1_EditsLeast.j0 k a0 bt399.1 bt404.1 (!t412)))) else (monikerlaw1_EditsLeast.j0 k a0 bt399.1 bt404.1 true)) else (monikerlaw1_EditsLeast.j0 k a0 bt399.1 bt404.1 true)) else (monikerlaw1_EditsLeast.j0 k a0 bt399.1 bt404.1 true)) else (monikerlaw1_EditsLeast.j0 k a0 bt399.1 bt404.1 true))))) else ((edits_Valid.f k (a0.size : Int) l1).bind fun t403 => (if bt399.2 = t403 then (some ((bt399.1.length : Int) == 0)) else (some false))))
set_option maxHeartbeats 8000000 in
set_option maxRecDepth 100000 in
theorem monikerlaw1_EditsLeast.calls (k : Nat) (a0 : ByteArray) (A1 : Option Addr) (c1 : Nat) (l1 : List (S42)) (r : Bool) (w : World) (hr1 : Kd.C k42 w A1 l1.length l1) (hc1 : l1.length ≤ c1) (h : monikerlaw1_EditsLeast.f k a0 l1 = some r) :
    Calls Try.prog 10 #[.string a0, .slice A1 l1.length c1] w fun e w' => e = .returned (.bool r) ∧ Below w.heap.size w w' := by
  have hu42 := Try.underlying42
  have HR1 := Aside0.mk hr1
  have HC1 := Aside0.mk hc1
  clear hr1 hc1
  have HB := Aside0.mk (Below.refl w.heap.size w)
  have H : ((edits_Normal.f k a0 l1).bind fun bt399 => (if bt399.2 = 0 then ((edits_Apply.f k a0 l1).bind fun bt404 => ((edits_Apply.f k a0 bt399.1).bind fun bt406 => ((edits_Normal.f k a0 bt399.1).bind fun bt408 => (if bt404.2 = 0 then (if bt406.2 = 0 then (if bt408.2 = 0 then (if bt404.1.toList = bt406.1.toList then (if (bt399.1.length : Int) > (l1.length : Int) then (monikerlaw1_EditsLeast.j0 k a0 bt399.1 bt404.1 true) else ((monikerplain_SameEdits.f k bt408.1 bt399.1).bind fun t412 => (monikerlaw1_EditsLeast.j0 k a0 bt399.1 bt404.1 (!t412)))) else (monikerlaw1_EditsLeast.j0 k a0 bt399.1 bt404.1 true)) else (monikerlaw1_EditsLeast.j0 k a0 bt399.1 bt404.1 true)) else (monikerlaw1_EditsLeast.j0 k a0 bt399.1 bt404.1 true)) else (monikerlaw1_EditsLeast.j0 k a0 bt399.1 bt404.1 true))))) else ((edits_Valid.f k (a0.size : Int) l1).bind fun t403 => (if bt399.2 = t403 then (some ((bt399.1.length : Int) == 0)) else (some false))))) = some r := h
  clear h
  replace H := Option.bind_eq_some_iff.mp H
  obtain ⟨⟨t399, t400⟩, A30, H⟩ := H
  replace H : (if t400 = 0 then ((edits_Apply.f k a0 l1).bind fun bt404 => ((edits_Apply.f k a0 t399).bind fun bt406 => ((edits_Normal.f k a0 t399).bind fun bt408 => (if bt404.2 = 0 then (if bt406.2 = 0 then (if bt408.2 = 0 then (if bt404.1.toList = bt406.1.toList then (if (t399.length : Int) > (l1.length : Int) then (monikerlaw1_EditsLeast.j0 k a0 t399 bt404.1 true) else ((monikerplain_SameEdits.f k bt408.1 t399).bind fun t412 => (monikerlaw1_EditsLeast.j0 k a0 t399 bt404.1 (!t412)))) else (monikerlaw1_EditsLeast.j0 k a0 t399 bt404.1 true)) else (monikerlaw1_EditsLeast.j0 k a0 t399 bt404.1 true)) else (monikerlaw1_EditsLeast.j0 k a0 t399 bt404.1 true)) else (monikerlaw1_EditsLeast.j0 k a0 t399 bt404.1 true))))) else ((edits_Valid.f k (a0.size : Int) l1).bind fun t403 => (if t400 = t403 then (some ((t399.length : Int) == 0)) else (some false)))) = some r := H
  have A3 := Aside0.mk A30
  clear A30
  by_cases c4 : t400 = 0
  · rw [if_pos c4] at H
    have c4b0 : (t400 == 0) = true := beq_iff_eq.mpr c4
    have c4b1 : (t400 != 0) = false := bne_eq_false_iff_eq.mpr c4
    clear c4
    replace H := Option.bind_eq_some_iff.mp H
    obtain ⟨⟨t404, t405⟩, A50, H⟩ := H
    replace H : ((edits_Apply.f k a0 t399).bind fun bt406 => ((edits_Normal.f k a0 t399).bind fun bt408 => (if t405 = 0 then (if bt406.2 = 0 then (if bt408.2 = 0 then (if t404.toList = bt406.1.toList then (if (t399.length : Int) > (l1.length : Int) then (monikerlaw1_EditsLeast.j0 k a0 t399 t404 true) else ((monikerplain_SameEdits.f k bt408.1 t399).bind fun t412 => (monikerlaw1_EditsLeast.j0 k a0 t399 t404 (!t412)))) else (monikerlaw1_EditsLeast.j0 k a0 t399 t404 true)) else (monikerlaw1_EditsLeast.j0 k a0 t399 t404 true)) else (monikerlaw1_EditsLeast.j0 k a0 t399 t404 true)) else (monikerlaw1_EditsLeast.j0 k a0 t399 t404 true)))) = some r := H
    have A5 := Aside0.mk A50
    clear A50
    replace H := Option.bind_eq_some_iff.mp H
    obtain ⟨⟨t406, t407⟩, A60, H⟩ := H
    replace H : ((edits_Normal.f k a0 t399).bind fun bt408 => (if t405 = 0 then (if t407 = 0 then (if bt408.2 = 0 then (if t404.toList = t406.toList then (if (t399.length : Int) > (l1.length : Int) then (monikerlaw1_EditsLeast.j0 k a0 t399 t404 true) else ((monikerplain_SameEdits.f k bt408.1 t399).bind fun t412 => (monikerlaw1_EditsLeast.j0 k a0 t399 t404 (!t412)))) else (monikerlaw1_EditsLeast.j0 k a0 t399 t404 true)) else (monikerlaw1_EditsLeast.j0 k a0 t399 t404 true)) else (monikerlaw1_EditsLeast.j0 k a0 t399 t404 true)) else (monikerlaw1_EditsLeast.j0 k a0 t399 t404 true))) = some r := H
    have A6 := Aside0.mk A60
    clear A60
    replace H := Option.bind_eq_some_iff.mp H
    obtain ⟨⟨t408, t409⟩, A70, H⟩ := H
    replace H : (if t405 = 0 then (if t407 = 0 then (if t409 = 0 then (if t404.toList = t406.toList then (if (t399.length : Int) > (l1.length : Int) then (monikerlaw1_EditsLeast.j0 k a0 t399 t404 true) else ((monikerplain_SameEdits.f k t408 t399).bind fun t412 => (monikerlaw1_EditsLeast.j0 k a0 t399 t404 (!t412)))) else (monikerlaw1_EditsLeast.j0 k a0 t399 t404 true)) else (monikerlaw1_EditsLeast.j0 k a0 t399 t404 true)) else (monikerlaw1_EditsLeast.j0 k a0 t399 t404 true)) else (monikerlaw1_EditsLeast.j0 k a0 t399 t404 true)) = some r := H
    have A7 := Aside0.mk A70
    clear A70
    have HC8 := Aside0.mk H
    clear H
    go_enter Try.func10, Try.ntmps10
    go_upto_region 7 with (first | (go_at_call 26; (with_reducible refine (edits_Normal.calls k a0 _ _ l1 t399 t400 _ ?side1 ?side2 A3.out).mono ?_); (case side1 => repeat (first | exact HR1.out | (with_reducible refine Kd.C_alloc ?_ _) | (with_reducible refine Kd.C_drewN ?_ _) | (with_reducible refine Kd.C_drew ?_))); (case side2 => exact HC1.out); rintro e w9 ⟨v401, rfl, ho0, hb⟩; have n0_ := Aside0.mk (Kd.R_lower ho0 (below_size (by repeat (first | (with_reducible first | exact HB.out | apply below_alloc | apply pw_below_drewN | apply below_drew1) | exact HB.out)))); have n1_ := Aside0.mk (below_step (by repeat (first | (with_reducible first | exact HB.out | apply below_alloc | apply pw_below_drewN | apply below_drew1) | exact HB.out)) hb); clear HB; have HO402 := n0_; have HB := n1_; clear n0_ n1_; (try clear hb); (try clear hb2); (try clear hk); (try clear hi); (try clear ho0)) | (go_at_call 24; (with_reducible refine (edits_Apply.calls k a0 _ _ l1 t404 t405 _ ?side1 ?side2 A5.out).mono ?_); (case side1 => repeat (first | exact (Kd.C_below HR1.out HB.out) | (with_reducible refine Kd.C_alloc ?_ _) | (with_reducible refine Kd.C_drewN ?_ _) | (with_reducible refine Kd.C_drew ?_))); (case side2 => exact HC1.out); rintro e w10 ⟨rfl, hb⟩; have n0_ := Aside0.mk (Kd.R_below (by (with_reducible repeat (first | apply Kd.R_alloc | apply Kd.R_drewN | apply Kd.R_drew)); exact HO402.out) hb); have n1_ := Aside0.mk (below_step (by repeat (first | (with_reducible first | exact HB.out | apply below_alloc | apply pw_below_drewN | apply below_drew1) | exact HB.out)) hb); clear HO402; clear HB; have HO402 := n0_; have HB := n1_; clear n0_ n1_; (try clear hb); (try clear hb2); (try clear hk); (try clear hi); obtain ⟨Ao11, co11, eo11⟩ := Kd.R_slice HO402.out; subst eo11) | (go_at_call 24; (with_reducible refine (edits_Apply.calls k a0 _ _ t399 t406 t407 _ ?side1 ?side2 A6.out).mono ?_); (case side1 => repeat (first | exact (Kd.R_reads' HO402.out).2.2 | (with_reducible refine Kd.C_alloc ?_ _) | (with_reducible refine Kd.C_drewN ?_ _) | (with_reducible refine Kd.C_drew ?_))); (case side2 => exact (Kd.R_reads' HO402.out).2.1); rintro e w12 ⟨rfl, hb⟩; have n0_ := Aside0.mk (Kd.R_below (by (with_reducible repeat (first | apply Kd.R_alloc | apply Kd.R_drewN | apply Kd.R_drew)); exact HO402.out) hb); have n1_ := Aside0.mk (below_step (by repeat (first | (with_reducible first | exact HB.out | apply below_alloc | apply pw_below_drewN | apply below_drew1) | exact HB.out)) hb); clear HO402; clear HB; have HO402 := n0_; have HB := n1_; clear n0_ n1_; (try clear hb); (try clear hb2); (try clear hk); (try clear hi)) | (go_at_call 26; (with_reducible refine (edits_Normal.calls k a0 _ _ t399 t408 t409 _ ?side1 ?side2 A7.out).mono ?_); (case side1 => repeat (first | exact (Kd.R_reads' HO402.out).2.2 | (with_reducible refine Kd.C_alloc ?_ _) | (with_reducible refine Kd.C_drewN ?_ _) | (with_reducible refine Kd.C_drew ?_))); (case side2 => exact (Kd.R_reads' HO402.out).2.1); rintro e w13 ⟨v410, rfl, ho0, hb⟩; have n0_ := Aside0.mk (Kd.R_elder' (by (with_reducible repeat (first | apply Kd.R_alloc | apply Kd.R_drewN | apply Kd.R_drew)); exact HO402.out) (Kd.R_base ho0) hb); have n1_ := Aside0.mk (Kd.R_lower (Kd.R_new' ho0 (Kd.R_lt (by (with_reducible repeat (first | apply Kd.R_alloc | apply Kd.R_drewN | apply Kd.R_drew)); exact HO402.out))) (below_size (by repeat (first | (with_reducible first | exact HB.out | apply below_alloc | apply pw_below_drewN | apply below_drew1) | exact HB.out)))); have n2_ := Aside0.mk (below_step (by repeat (first | (with_reducible first | exact HB.out | apply below_alloc | apply pw_below_drewN | apply below_drew1) | exact HB.out)) hb); clear HO402; clear HB; have HO402 := n0_; have HO411 := n1_; have HB := n2_; clear n0_ n1_ n2_; (try clear hb); (try clear hb2); (try clear hk); (try clear hi); (try clear ho0)))
    repeat (go_quiet (first | (go_at_call 26; (with_reducible refine (edits_Normal.calls k a0 _ _ l1 t399 t400 _ ?side1 ?side2 A3.out).mono ?_); (case side1 => repeat (first | exact HR1.out | (with_reducible refine Kd.C_alloc ?_ _) | (with_reducible refine Kd.C_drewN ?_ _) | (with_reducible refine Kd.C_drew ?_))); (case side2 => exact HC1.out); rintro e w9 ⟨v401, rfl, ho0, hb⟩; have n0_ := Aside0.mk (Kd.R_lower ho0 (below_size (by repeat (first | (with_reducible first | exact HB.out | apply below_alloc | apply pw_below_drewN | apply below_drew1) | exact HB.out)))); have n1_ := Aside0.mk (below_step (by repeat (first | (with_reducible first | exact HB.out | apply below_alloc | apply pw_below_drewN | apply below_drew1) | exact HB.out)) hb); clear HB; have HO402 := n0_; have HB := n1_; clear n0_ n1_; (try clear hb); (try clear hb2); (try clear hk); (try clear hi); (try clear ho0)) | (go_at_call 24; (with_reducible refine (edits_Apply.calls k a0 _ _ l1 t404 t405 _ ?side1 ?side2 A5.out).mono ?_); (case side1 => repeat (first | exact (Kd.C_below HR1.out HB.out) | (with_reducible refine Kd.C_alloc ?_ _) | (with_reducible refine Kd.C_drewN ?_ _) | (with_reducible refine Kd.C_drew ?_))); (case side2 => exact HC1.out); rintro e w10 ⟨rfl, hb⟩; have n0_ := Aside0.mk (Kd.R_below (by (with_reducible repeat (first | apply Kd.R_alloc | apply Kd.R_drewN | apply Kd.R_drew)); exact HO402.out) hb); have n1_ := Aside0.mk (below_step (by repeat (first | (with_reducible first | exact HB.out | apply below_alloc | apply pw_below_drewN | apply below_drew1) | exact HB.out)) hb); clear HO402; clear HB; have HO402 := n0_; have HB := n1_; clear n0_ n1_; (try clear hb); (try clear hb2); (try clear hk); (try clear hi); obtain ⟨Ao11, co11, eo11⟩ := Kd.R_slice HO402.out; subst eo11) | (go_at_call 24; (with_reducible refine (edits_Apply.calls k a0 _ _ t399 t406 t407 _ ?side1 ?side2 A6.out).mono ?_); (case side1 => repeat (first | exact (Kd.R_reads' HO402.out).2.2 | (with_reducible refine Kd.C_alloc ?_ _) | (with_reducible refine Kd.C_drewN ?_ _) | (with_reducible refine Kd.C_drew ?_))); (case side2 => exact (Kd.R_reads' HO402.out).2.1); rintro e w12 ⟨rfl, hb⟩; have n0_ := Aside0.mk (Kd.R_below (by (with_reducible repeat (first | apply Kd.R_alloc | apply Kd.R_drewN | apply Kd.R_drew)); exact HO402.out) hb); have n1_ := Aside0.mk (below_step (by repeat (first | (with_reducible first | exact HB.out | apply below_alloc | apply pw_below_drewN | apply below_drew1) | exact HB.out)) hb); clear HO402; clear HB; have HO402 := n0_; have HB := n1_; clear n0_ n1_; (try clear hb); (try clear hb2); (try clear hk); (try clear hi)) | (go_at_call 26; (with_reducible refine (edits_Normal.calls k a0 _ _ t399 t408 t409 _ ?side1 ?side2 A7.out).mono ?_); (case side1 => repeat (first | exact (Kd.R_reads' HO402.out).2.2 | (with_reducible refine Kd.C_alloc ?_ _) | (with_reducible refine Kd.C_drewN ?_ _) | (with_reducible refine Kd.C_drew ?_))); (case side2 => exact (Kd.R_reads' HO402.out).2.1); rintro e w13 ⟨v410, rfl, ho0, hb⟩; have n0_ := Aside0.mk (Kd.R_elder' (by (with_reducible repeat (first | apply Kd.R_alloc | apply Kd.R_drewN | apply Kd.R_drew)); exact HO402.out) (Kd.R_base ho0) hb); have n1_ := Aside0.mk (Kd.R_lower (Kd.R_new' ho0 (Kd.R_lt (by (with_reducible repeat (first | apply Kd.R_alloc | apply Kd.R_drewN | apply Kd.R_drew)); exact HO402.out))) (below_size (by repeat (first | (with_reducible first | exact HB.out | apply below_alloc | apply pw_below_drewN | apply below_drew1) | exact HB.out)))); have n2_ := Aside0.mk (below_step (by repeat (first | (with_reducible first | exact HB.out | apply below_alloc | apply pw_below_drewN | apply below_drew1) | exact HB.out)) hb); clear HO402; clear HB; have HO402 := n0_; have HO411 := n1_; have HB := n2_; clear n0_ n1_ n2_; (try clear hb); (try clear hb2); (try clear hk); (try clear hi); (try clear ho0))); go_upto_region 7 with (first | (go_at_call 26; (with_reducible refine (edits_Normal.calls k a0 _ _ l1 t399 t400 _ ?side1 ?side2 A3.out).mono ?_); (case side1 => repeat (first | exact HR1.out | (with_reducible refine Kd.C_alloc ?_ _) | (with_reducible refine Kd.C_drewN ?_ _) | (with_reducible refine Kd.C_drew ?_))); (case side2 => exact HC1.out); rintro e w9 ⟨v401, rfl, ho0, hb⟩; have n0_ := Aside0.mk (Kd.R_lower ho0 (below_size (by repeat (first | (with_reducible first | exact HB.out | apply below_alloc | apply pw_below_drewN | apply below_drew1) | exact HB.out)))); have n1_ := Aside0.mk (below_step (by repeat (first | (with_reducible first | exact HB.out | apply below_alloc | apply pw_below_drewN | apply below_drew1) | exact HB.out)) hb); clear HB; have HO402 := n0_; have HB := n1_; clear n0_ n1_; (try clear hb); (try clear hb2); (try clear hk); (try clear hi); (try clear ho0)) | (go_at_call 24; (with_reducible refine (edits_Apply.calls k a0 _ _ l1 t404 t405 _ ?side1 ?side2 A5.out).mono ?_); (case side1 => repeat (first | exact (Kd.C_below HR1.out HB.out) | (with_reducible refine Kd.C_alloc ?_ _) | (with_reducible refine Kd.C_drewN ?_ _) | (with_reducible refine Kd.C_drew ?_))); (case side2 => exact HC1.out); rintro e w10 ⟨rfl, hb⟩; have n0_ := Aside0.mk (Kd.R_below (by (with_reducible repeat (first | apply Kd.R_alloc | apply Kd.R_drewN | apply Kd.R_drew)); exact HO402.out) hb); have n1_ := Aside0.mk (below_step (by repeat (first | (with_reducible first | exact HB.out | apply below_alloc | apply pw_below_drewN | apply below_drew1) | exact HB.out)) hb); clear HO402; clear HB; have HO402 := n0_; have HB := n1_; clear n0_ n1_; (try clear hb); (try clear hb2); (try clear hk); (try clear hi); obtain ⟨Ao11, co11, eo11⟩ := Kd.R_slice HO402.out; subst eo11) | (go_at_call 24; (with_reducible refine (edits_Apply.calls k a0 _ _ t399 t406 t407 _ ?side1 ?side2 A6.out).mono ?_); (case side1 => repeat (first | exact (Kd.R_reads' HO402.out).2.2 | (with_reducible refine Kd.C_alloc ?_ _) | (with_reducible refine Kd.C_drewN ?_ _) | (with_reducible refine Kd.C_drew ?_))); (case side2 => exact (Kd.R_reads' HO402.out).2.1); rintro e w12 ⟨rfl, hb⟩; have n0_ := Aside0.mk (Kd.R_below (by (with_reducible repeat (first | apply Kd.R_alloc | apply Kd.R_drewN | apply Kd.R_drew)); exact HO402.out) hb); have n1_ := Aside0.mk (below_step (by repeat (first | (with_reducible first | exact HB.out | apply below_alloc | apply pw_below_drewN | apply below_drew1) | exact HB.out)) hb); clear HO402; clear HB; have HO402 := n0_; have HB := n1_; clear n0_ n1_; (try clear hb); (try clear hb2); (try clear hk); (try clear hi)) | (go_at_call 26; (with_reducible refine (edits_Normal.calls k a0 _ _ t399 t408 t409 _ ?side1 ?side2 A7.out).mono ?_); (case side1 => repeat (first | exact (Kd.R_reads' HO402.out).2.2 | (with_reducible refine Kd.C_alloc ?_ _) | (with_reducible refine Kd.C_drewN ?_ _) | (with_reducible refine Kd.C_drew ?_))); (case side2 => exact (Kd.R_reads' HO402.out).2.1); rintro e w13 ⟨v410, rfl, ho0, hb⟩; have n0_ := Aside0.mk (Kd.R_elder' (by (with_reducible repeat (first | apply Kd.R_alloc | apply Kd.R_drewN | apply Kd.R_drew)); exact HO402.out) (Kd.R_base ho0) hb); have n1_ := Aside0.mk (Kd.R_lower (Kd.R_new' ho0 (Kd.R_lt (by (with_reducible repeat (first | apply Kd.R_alloc | apply Kd.R_drewN | apply Kd.R_drew)); exact HO402.out))) (below_size (by repeat (first | (with_reducible first | exact HB.out | apply below_alloc | apply pw_below_drewN | apply below_drew1) | exact HB.out)))); have n2_ := Aside0.mk (below_step (by repeat (first | (with_reducible first | exact HB.out | apply below_alloc | apply pw_below_drewN | apply below_drew1) | exact HB.out)) hb); clear HO402; clear HB; have HO402 := n0_; have HO411 := n1_; have HB := n2_; clear n0_ n1_ n2_; (try clear hb); (try clear hb2); (try clear hk); (try clear hi); (try clear ho0))))
    (try simp only [Act.put, List.setIfInBounds_toArray, List.set_cons_zero, List.set_cons_succ])
    go_cut [80] (fun v80 wc => ∃ (kq : Nat) (x80_7 : Bool), v80 = .bool x80_7 ∧ Aside0 (monikerlaw1_EditsLeast.j0 kq a0 t399 t404 x80_7 = some r) ∧ Aside0 (kq ≤ k) ∧ Aside0 (Kd.R k42 42 wc w.heap.size (fun _ => True) (.slice Ao11 t399.length co11) t399) ∧ Aside0 (Below w.heap.size w wc))
    case first =>
      have H := HC8.out
      clear HC8
      by_cases c14 : t405 = 0
      · rw [if_pos c14] at H
        have c14b0 : (t405 == 0) = true := beq_iff_eq.mpr c14
        have c14b1 : (t405 != 0) = false := bne_eq_false_iff_eq.mpr c14
        clear c14
        (first | rw [c14b0] | (simp only [i64_w, i32_w]; rw [c14b0]) | skip)
        by_cases c15 : t407 = 0
        · rw [if_pos c15] at H
          have c15b0 : (t407 == 0) = true := beq_iff_eq.mpr c15
          have c15b1 : (t407 != 0) = false := bne_eq_false_iff_eq.mpr c15
          clear c15
          by_cases c16 : t409 = 0
          · rw [if_pos c16] at H
            have c16b0 : (t409 == 0) = true := beq_iff_eq.mpr c16
            have c16b1 : (t409 != 0) = false := bne_eq_false_iff_eq.mpr c16
            clear c16
            by_cases c17 : t404.toList = t406.toList
            · rw [if_pos c17] at H
              have c17b0 : (t404.toList == t406.toList) = true := beq_iff_eq.mpr c17
              have c17b1 : (t404.toList != t406.toList) = false := bne_eq_false_iff_eq.mpr c17
              clear c17
              by_cases c18 : (t399.length : Int) > (l1.length : Int)
              · rw [if_pos c18] at H
                have c18b0 : decide ((l1.length : Int) < (t399.length : Int)) = true := decide_eq_true c18
                have c18b1 : decide (l1.length < t399.length) = true := decide_eq_true (Int.ofNat_lt.mp c18)
                clear c18
                have H' := Aside0.mk H
                clear H
                go_wp2
                repeat (go_quiet (fail); try go_wp2)
                go_meet
                case rel => exact ⟨_, (true), (by first | rfl | (simp; done) | (simp [*]; done)), H', ⟨by first | omega | exact Nat.le_refl _⟩, ⟨by (with_reducible repeat (first | apply Kd.R_alloc | apply Kd.R_drewN | apply Kd.R_drew)); exact Kd.R_mono HO402.out (fun _ hk => trivial)⟩, ⟨by repeat (first | (with_reducible first | exact HB.out | apply below_alloc | apply pw_below_drewN | apply below_drew1) | exact HB.out)⟩⟩
              · rw [if_neg c18] at H
                have c18b0 : decide ((l1.length : Int) < (t399.length : Int)) = false := decide_eq_false c18
                have c18b1 : decide (l1.length < t399.length) = false := decide_eq_false (fun h => c18 (Int.ofNat_lt.mpr h))
                clear c18
                replace H := Option.bind_eq_some_iff.mp H
                obtain ⟨t412, A190, H⟩ := H
                replace H : (monikerlaw1_EditsLeast.j0 k a0 t399 t404 (!t412)) = some r := H
                have A19 := Aside0.mk A190
                clear A190
                have H' := Aside0.mk H
                clear H
                obtain ⟨Ao20, co20, eo20⟩ := Kd.R_slice HO411.out
                subst eo20
                go_wp2_with (first | (go_at_call 21; (with_reducible refine (monikerplain_SameEdits.calls k _ _ t408 _ _ t399 t412 _ ?side1 ?side2 ?side3 ?side4 A19.out).mono ?_); (case side1 => repeat (first | exact (Kd.R_reads' HO411.out).2.2 | (with_reducible refine Kd.C_alloc ?_ _) | (with_reducible refine Kd.C_drewN ?_ _) | (with_reducible refine Kd.C_drew ?_))); (case side2 => exact (Kd.R_reads' HO411.out).2.1); (case side3 => repeat (first | exact (Kd.R_reads' HO402.out).2.2 | (with_reducible refine Kd.C_alloc ?_ _) | (with_reducible refine Kd.C_drewN ?_ _) | (with_reducible refine Kd.C_drew ?_))); (case side4 => exact (Kd.R_reads' HO402.out).2.1); rintro e w' ⟨rfl, ⟨nd, rfl⟩⟩; (try first | exact ⟨rfl, _, World.drewN_drewN _ _ _⟩ | exact ⟨rfl, _, Eq.trans (World.drewN_drewN _ _ _) (congrArg (World.drewN _) (Nat.add_assoc _ _ _))⟩)))
                repeat (go_quiet (first | (go_at_call 21; (with_reducible refine (monikerplain_SameEdits.calls k _ _ t408 _ _ t399 t412 _ ?side1 ?side2 ?side3 ?side4 A19.out).mono ?_); (case side1 => repeat (first | exact (Kd.R_reads' HO411.out).2.2 | (with_reducible refine Kd.C_alloc ?_ _) | (with_reducible refine Kd.C_drewN ?_ _) | (with_reducible refine Kd.C_drew ?_))); (case side2 => exact (Kd.R_reads' HO411.out).2.1); (case side3 => repeat (first | exact (Kd.R_reads' HO402.out).2.2 | (with_reducible refine Kd.C_alloc ?_ _) | (with_reducible refine Kd.C_drewN ?_ _) | (with_reducible refine Kd.C_drew ?_))); (case side4 => exact (Kd.R_reads' HO402.out).2.1); rintro e w' ⟨rfl, ⟨nd, rfl⟩⟩; (try first | exact ⟨rfl, _, World.drewN_drewN _ _ _⟩ | exact ⟨rfl, _, Eq.trans (World.drewN_drewN _ _ _) (congrArg (World.drewN _) (Nat.add_assoc _ _ _))⟩))); try go_wp2_with (first | (go_at_call 21; (with_reducible refine (monikerplain_SameEdits.calls k _ _ t408 _ _ t399 t412 _ ?side1 ?side2 ?side3 ?side4 A19.out).mono ?_); (case side1 => repeat (first | exact (Kd.R_reads' HO411.out).2.2 | (with_reducible refine Kd.C_alloc ?_ _) | (with_reducible refine Kd.C_drewN ?_ _) | (with_reducible refine Kd.C_drew ?_))); (case side2 => exact (Kd.R_reads' HO411.out).2.1); (case side3 => repeat (first | exact (Kd.R_reads' HO402.out).2.2 | (with_reducible refine Kd.C_alloc ?_ _) | (with_reducible refine Kd.C_drewN ?_ _) | (with_reducible refine Kd.C_drew ?_))); (case side4 => exact (Kd.R_reads' HO402.out).2.1); rintro e w' ⟨rfl, ⟨nd, rfl⟩⟩; (try first | exact ⟨rfl, _, World.drewN_drewN _ _ _⟩ | exact ⟨rfl, _, Eq.trans (World.drewN_drewN _ _ _) (congrArg (World.drewN _) (Nat.add_assoc _ _ _))⟩))))
                go_meet
                case rel => exact ⟨_, (!t412), (by first | rfl | (simp; done) | (simp [*]; done)), H', ⟨by first | omega | exact Nat.le_refl _⟩, ⟨by (with_reducible repeat (first | apply Kd.R_alloc | apply Kd.R_drewN | apply Kd.R_drew)); exact Kd.R_mono HO402.out (fun _ hk => trivial)⟩, ⟨by repeat (first | (with_reducible first | exact HB.out | apply below_alloc | apply pw_below_drewN | apply below_drew1) | exact HB.out)⟩⟩
            · rw [if_neg c17] at H
              have c17b0 : (t404.toList == t406.toList) = false := beq_eq_false_iff_ne.mpr c17
              have c17b1 : (t404.toList != t406.toList) = true := bne_iff_ne.mpr c17
              have H' := Aside0.mk H
              clear H
              go_wp2
              repeat (go_quiet (fail); try go_wp2)
              go_meet
              case rel => exact ⟨_, (true), (by first | rfl | (simp; done) | (simp [*]; done)), H', ⟨by first | omega | exact Nat.le_refl _⟩, ⟨by (with_reducible repeat (first | apply Kd.R_alloc | apply Kd.R_drewN | apply Kd.R_drew)); exact Kd.R_mono HO402.out (fun _ hk => trivial)⟩, ⟨by repeat (first | (with_reducible first | exact HB.out | apply below_alloc | apply pw_below_drewN | apply below_drew1) | exact HB.out)⟩⟩
          · rw [if_neg c16] at H
            have c16b0 : (t409 == 0) = false := beq_eq_false_iff_ne.mpr c16
            have c16b1 : (t409 != 0) = true := bne_iff_ne.mpr c16
            have H' := Aside0.mk H
            clear H
            go_wp2
            repeat (go_quiet (fail); try go_wp2)
            go_meet
            case rel => exact ⟨_, (true), (by first | rfl | (simp; done) | (simp [*]; done)), H', ⟨by first | omega | exact Nat.le_refl _⟩, ⟨by (with_reducible repeat (first | apply Kd.R_alloc | apply Kd.R_drewN | apply Kd.R_drew)); exact Kd.R_mono HO402.out (fun _ hk => trivial)⟩, ⟨by repeat (first | (with_reducible first | exact HB.out | apply below_alloc | apply pw_below_drewN | apply below_drew1) | exact HB.out)⟩⟩
        · rw [if_neg c15] at H
          have c15b0 : (t407 == 0) = false := beq_eq_false_iff_ne.mpr c15
          have c15b1 : (t407 != 0) = true := bne_iff_ne.mpr c15
          have H' := Aside0.mk H
          clear H
          go_wp2
          repeat (go_quiet (fail); try go_wp2)
          go_meet
          case rel => exact ⟨_, (true), (by first | rfl | (simp; done) | (simp [*]; done)), H', ⟨by first | omega | exact Nat.le_refl _⟩, ⟨by (with_reducible repeat (first | apply Kd.R_alloc | apply Kd.R_drewN | apply Kd.R_drew)); exact Kd.R_mono HO402.out (fun _ hk => trivial)⟩, ⟨by repeat (first | (with_reducible first | exact HB.out | apply below_alloc | apply pw_below_drewN | apply below_drew1) | exact HB.out)⟩⟩
      · rw [if_neg c14] at H
        have c14b0 : (t405 == 0) = false := beq_eq_false_iff_ne.mpr c14
        have c14b1 : (t405 != 0) = true := bne_iff_ne.mpr c14
        (first | rw [c14b0] | (simp only [i64_w, i32_w]; rw [c14b0]) | skip)
        have H' := Aside0.mk H
        clear H
        go_wp2
        repeat (go_quiet (fail); try go_wp2)
        go_meet
        case rel => exact ⟨_, (true), (by first | rfl | (simp; done) | (simp [*]; done)), H', ⟨by first | omega | exact Nat.le_refl _⟩, ⟨by (with_reducible repeat (first | apply Kd.R_alloc | apply Kd.R_drewN | apply Kd.R_drew)); exact Kd.R_mono HO402.out (fun _ hk => trivial)⟩, ⟨by repeat (first | (with_reducible first | exact HB.out | apply below_alloc | apply pw_below_drewN | apply below_drew1) | exact HB.out)⟩⟩
    case rest =>
      clear HC8
      try clear c1
      try clear p2
      try clear c4
      try clear c4b0
      try clear c4b1
      try clear c10
      try clear c14
      try clear c14b0
      try clear c14b1
      try clear c15
      try clear c15b0
      try clear c15b1
      try clear c16
      try clear c16b0
      try clear c16b1
      try clear c17
      try clear c17b0
      try clear c17b1
      try clear c18
      try clear c18b0
      try clear c18b1
      obtain ⟨kq, x80_7, rfl, HA, HJ7, HO_5, HB⟩ := hcut
      cases kq with
      | zero => exact absurd HA.out (by simp [monikerlaw1_EditsLeast.j0])
      | succ kj7 =>
        have H := HA.out
        clear HA
        simp only [monikerlaw1_EditsLeast.j0] at H
        try simp only [ByteArray.size_extract, Nat.min_self] at H
        by_cases c21 : x80_7 = true
        · subst c21
          have H1 : (some false) = some r := by rw [if_pos rfl] at H; exact H
          clear H
          have H := H1
          clear H1
          obtain rfl := Option.some.inj H
          go_wp2
          repeat (go_quiet (fail); try go_wp2)
          go_ret
          exact ⟨by first | rfl | (simp [errW_none, errW_some] <;> rfl) | (simp [*, errW_none, errW_some] <;> rfl), by repeat (first | (with_reducible first | exact HB.out | apply below_alloc | apply pw_below_drewN | apply below_drew1) | exact HB.out)⟩
        · replace c21 := Bool.eq_false_iff.mpr c21
          subst c21
          have H1 : (if (t399.length : Int) = 0 then (monikerlaw1_EditsLeast.j1 kj7 a0 t399 (t404.toList != a0.toList)) else (monikerlaw1_EditsLeast.j1 kj7 a0 t399 false)) = some r := by rw [if_neg (show ¬ (false = true) by decide)] at H; exact H
          clear H
          have H := H1
          clear H1
          have HC22 := Aside0.mk H
          clear H
          go_upto_region 9 with (fail)
          repeat (go_quiet (fail); go_upto_region 9 with (fail))
          go_cut [88] (fun v88 wc => ∃ (kq : Nat) (x88_21 : Bool), v88 = .bool x88_21 ∧ Aside0 (monikerlaw1_EditsLeast.j1 kq a0 t399 x88_21 = some r) ∧ Aside0 (kq ≤ kj7) ∧ Aside0 (Kd.R k42 42 wc w.heap.size (fun _ => True) (.slice Ao11 t399.length co11) t399) ∧ Aside0 (Below w.heap.size w wc))
          case first =>
            have H := HC22.out
            clear HC22
            by_cases c23 : (t399.length : Int) = 0
            · rw [if_pos c23] at H
              have c23b0 : ((t399.length : Int) == 0) = true := beq_iff_eq.mpr c23
              have c23b1 : ((t399.length : Int) != 0) = false := bne_eq_false_iff_eq.mpr c23
              clear c23
              (first | rw [c23b0] | (simp only [i64_w, i32_w]; rw [c23b0]) | skip)
              have H' := Aside0.mk H
              clear H
              go_wp2
              repeat (go_quiet (fail); try go_wp2)
              go_meet
              case rel => exact ⟨_, ((t404.toList != a0.toList)), (by first | rfl | (simp; done) | (simp [*]; done)), H', ⟨by have := HJ7.out; first | omega | exact Nat.le_refl _⟩, ⟨by (with_reducible repeat (first | apply Kd.R_alloc | apply Kd.R_drewN | apply Kd.R_drew)); exact HO_5.out⟩, ⟨by repeat (first | (with_reducible first | exact HB.out | apply below_alloc | apply pw_below_drewN | apply below_drew1) | exact HB.out)⟩⟩
            · rw [if_neg c23] at H
              have c23b0 : ((t399.length : Int) == 0) = false := beq_eq_false_iff_ne.mpr c23
              have c23b1 : ((t399.length : Int) != 0) = true := bne_iff_ne.mpr c23
              have c23b2 : ¬ (t399 = []) := fun h_ => c23 (by rw [h_]; rfl)
              (first | rw [c23b0] | (simp only [i64_w, i32_w]; rw [c23b0]) | skip)
              have H' := Aside0.mk H
              clear H
              go_wp2
              repeat (go_quiet (fail); try go_wp2)
              go_meet
              case rel => exact ⟨_, (false), (by first | rfl | (simp; done) | (simp [*]; done)), H', ⟨by have := HJ7.out; first | omega | exact Nat.le_refl _⟩, ⟨by (with_reducible repeat (first | apply Kd.R_alloc | apply Kd.R_drewN | apply Kd.R_drew)); exact HO_5.out⟩, ⟨by repeat (first | (with_reducible first | exact HB.out | apply below_alloc | apply pw_below_drewN | apply below_drew1) | exact HB.out)⟩⟩
          case rest =>
            clear HC22
            try clear c1
            try clear c2
            try clear p2
            try clear c4
            try clear c4b0
            try clear c4b1
            try clear c10
            try clear c14
            try clear c14b0
            try clear c14b1
            try clear c15
            try clear c15b0
            try clear c15b1
            try clear c16
            try clear c16b0
            try clear c16b1
            try clear c17
            try clear c17b0
            try clear c17b1
            try clear c18
            try clear c18b0
            try clear c18b1
            try clear c21
            try clear c23
            try clear c23b0
            try clear c23b1
            try clear c23b2
            try clear p2
            obtain ⟨kq, x88_21, rfl, HA, HJ21, HO_5, HB⟩ := hcut
            cases kq with
            | zero => exact absurd HA.out (by simp [monikerlaw1_EditsLeast.j1])
            | succ kj21 =>
              have H := HA.out
              clear HA
              simp only [monikerlaw1_EditsLeast.j1] at H
              try simp only [ByteArray.size_extract, Nat.min_self] at H
              by_cases c24 : x88_21 = true
              · subst c24
                have H1 : (some false) = some r := by rw [if_pos rfl] at H; exact H
                clear H
                have H := H1
                clear H1
                obtain rfl := Option.some.inj H
                go_wp2
                repeat (go_quiet (fail); try go_wp2)
                go_ret
                exact ⟨by first | rfl | (simp [errW_none, errW_some] <;> rfl) | (simp [*, errW_none, errW_some] <;> rfl), by repeat (first | (with_reducible first | exact HB.out | apply below_alloc | apply pw_below_drewN | apply below_drew1) | exact HB.out)⟩
              · replace c24 := Bool.eq_false_iff.mpr c24
                subst c24
                have H1 : (monikerlaw1_EditsLeast.l0 kj21 a0 t399 (t399.length : Int) 0) = some r := by rw [if_neg (show ¬ (false = true) by decide)] at H; exact H
                clear H
                have H := H1
                clear H1
                have H' := Aside0.mk H
                clear H
                go_wp2
                repeat (go_quiet (fail); try go_wp2)
                go_loopg [91] kj21 (fun kq v91 w' => ∃ (x91_3 : Int), v91 = .int .i64 x91_3 ∧ Aside0 (monikerlaw1_EditsLeast.l0 kq a0 t399 (t399.length : Int) x91_3 = some r) ∧ Aside0 (kq ≤ kj21) ∧ Aside0 (Kd.R k42 42 w' w.heap.size (fun _ => True) (.slice Ao11 t399.length co11) t399) ∧ Aside0 (Below w.heap.size w w'))
                case atStart => exact ⟨(0), (by first | rfl | (simp; done) | (simp [*]; done)), H', ⟨Nat.le_refl _⟩, ⟨by (with_reducible repeat (first | apply Kd.R_alloc | apply Kd.R_drewN | apply Kd.R_drew)); exact HO_5.out⟩, ⟨by repeat (first | (with_reducible first | exact HB.out | apply below_alloc | apply pw_below_drewN | apply below_drew1) | exact HB.out)⟩⟩
                case round =>
                  clear H'
                  try clear c1
                  try clear c2
                  try clear p2
                  try clear c4
                  try clear c4b0
                  try clear c4b1
                  try clear c10
                  try clear c14
                  try clear c14b0
                  try clear c14b1
                  try clear c15
                  try clear c15b0
                  try clear c15b1
                  try clear c16
                  try clear c16b0
                  try clear c16b1
                  try clear c17
                  try clear c17b0
                  try clear c17b1
                  try clear c18
                  try clear c18b0
                  try clear c18b1
                  try clear c21
                  try clear c23
                  try clear c23b0
                  try clear c23b1
                  try clear c23b2
                  try clear c24
                  try clear p2
                  obtain ⟨x91_3, rfl, HA, HK3, HO_89, HB⟩ := hrel
                  cases gk with
                  | zero => exact absurd HA.out (by simp [monikerlaw1_EditsLeast.l0])
                  | succ k3 =>
                    have H := HA.out
                    clear HA
                    simp only [monikerlaw1_EditsLeast.l0] at H
                    try simp only [ByteArray.size_extract, Nat.min_self] at H
                    by_cases c25 : x91_3 < (t399.length : Int)
                    · rw [if_pos c25] at H
                      have c25b0 : decide (x91_3 < (t399.length : Int)) = true := decide_eq_true c25
                      clear c25
                      by_cases c26 : 0 ≤ x91_3
                      · rw [if_pos c26] at H
                        have c26b0 : decide (0 ≤ x91_3) = true := decide_eq_true c26
                        clear c26
                        by_cases c27 : x91_3 < (t399.length : Int)
                        · rw [if_pos c27] at H
                          have c27b0 : decide (x91_3 < (t399.length : Int)) = true := decide_eq_true c27
                          clear c27
                          by_cases c28 : 0 ≤ ((rd_T42 t399 x91_3).f0)
                          · rw [if_pos c28] at H
                            have c28b0 := eq_true c28
                            have c28b1 : decide (0 ≤ ((rd_T42 t399 x91_3).f0)) = true := decide_eq_true c28
                            clear c28
                            by_cases c29 : ((rd_T42 t399 x91_3).f0) ≤ ((rd_T42 t399 x91_3).f1)
                            · rw [if_pos c29] at H
                              have c29b0 := eq_true c29
                              have c29b1 : decide (((rd_T42 t399 x91_3).f0) ≤ ((rd_T42 t399 x91_3).f1)) = true := decide_eq_true c29
                              clear c29
                              by_cases c30 : ((rd_T42 t399 x91_3).f1) ≤ (a0.size : Int)
                              · rw [if_pos c30] at H
                                try simp only [show min ((((rd_T42 t399 x91_3).f1)) : Int).toNat a0.size = ((((rd_T42 t399 x91_3).f1)) : Int).toNat from Nat.min_eq_left (by omega)] at H
                                have c30b0 := eq_true c30
                                have c30b1 : decide (((rd_T42 t399 x91_3).f1) ≤ (a0.size : Int)) = true := decide_eq_true c30
                                clear c30
                                by_cases c31 : (a0.extract (((rd_T42 t399 x91_3).f0) : Int).toNat (((rd_T42 t399 x91_3).f1) : Int).toNat).toList = ((rd_T42 t399 x91_3).f2).toList
                                · rw [if_pos c31] at H
                                  have c31b0 : ((a0.extract (((rd_T42 t399 x91_3).f0) : Int).toNat (((rd_T42 t399 x91_3).f1) : Int).toNat).toList == ((rd_T42 t399 x91_3).f2).toList) = true := beq_iff_eq.mpr c31
                                  have c31b1 : ((a0.extract (((rd_T42 t399 x91_3).f0) : Int).toNat (((rd_T42 t399 x91_3).f1) : Int).toNat).toList != ((rd_T42 t399 x91_3).f2).toList) = false := bne_eq_false_iff_eq.mpr c31
                                  clear c31
                                  obtain rfl := Option.some.inj H
                                  have p413 : 0 ≤ (x91_3 : Int) := of_decide_eq_true (by first | (with_reducible assumption) | assumption)
                                  have q413 : x91_3 < (t399.length : Int) := of_decide_eq_true (by first | (with_reducible assumption) | assumption)
                                  obtain ⟨ad413, e413, hx413_0, hx413_1, hx413_2⟩ := at_T42 (Kd.R_reads' HO_89.out).2.2 x91_3 p413 q413
                                  cases e413
                                  replace p413 := eq_true p413
                                  replace q413 := eq_true q413
                                  go_wp2_with (first | ((with_reducible refine gate_dst (N := 14) rfl ?_); (try (refine gate_guard (by rfl) ?_; dsimp only)); refine box_event ?hg (N := 14) ?hd (cs := #[.int .i64 0, .int .i64 0, .string (⟨#[]⟩ : ByteArray)]) (t := 42) ?hr ?_; (case hd => rfl); (case hg => rfl); (case hr => first | (go_simp; done) | (go_simp; rfl)); intro gb414 hg w32 hbox hb; have n0_ := Aside0.mk (Kd.R_below (Kd.R_elderB (by (with_reducible repeat (first | apply Kd.R_alloc | apply Kd.R_drewN | apply Kd.R_drew)); exact HO_89.out) gb414 (Nat.le_of_eq hg.symm)) hb); have n1_ := Aside0.mk (below_step (by repeat (first | (with_reducible first | exact HB.out | apply below_alloc | apply pw_below_drewN | apply below_drew1) | exact HB.out)) hb); have n2_ := Aside0.mk (hbox); have n3_ := Aside0.mk ((by rw [hg]; exact (below_size (by repeat (first | (with_reducible first | exact HB.out | apply below_alloc | apply pw_below_drewN | apply below_drew1) | exact HB.out))) : w.heap.size ≤ gb414)); have n4_ := Aside0.mk ((by rw [hg]; exact (below_size (by repeat (first | (with_reducible first | exact HB.out | apply below_alloc | apply pw_below_drewN | apply below_drew1) | exact HB.out))) : w.heap.size ≤ gb414)); clear HO_89; clear HB; have HO_89 := n0_; have HB := n1_; have BK414 := n2_; have GW414 := n3_; have GE414 := n4_; clear n0_ n1_ n2_ n3_ n4_; clear hb hbox hg; have hcz33_0 : w32.cell? ⟨gb414, 0, none⟩ = some (.int .i64 0) := (blk_cell BK414.out 0).trans rfl; have hcz33_1 : w32.cell? ⟨gb414, 1, none⟩ = some (.int .i64 0) := (blk_cell BK414.out 1).trans rfl; have hcz33_2 : w32.cell? ⟨gb414, 2, none⟩ = some (.string (⟨#[]⟩ : ByteArray)) := (blk_cell BK414.out 2).trans rfl; have hfz33_0 := blk_frozen BK414.out 0; have hfz33_1 := blk_frozen BK414.out 1; have hfz33_2 := blk_frozen BK414.out 2))
                                  repeat (go_quiet (first | ((with_reducible refine gate_dst (N := 14) rfl ?_); (try (refine gate_guard (by rfl) ?_; dsimp only)); refine box_event ?hg (N := 14) ?hd (cs := #[.int .i64 0, .int .i64 0, .string (⟨#[]⟩ : ByteArray)]) (t := 42) ?hr ?_; (case hd => rfl); (case hg => rfl); (case hr => first | (go_simp; done) | (go_simp; rfl)); intro gb414 hg w32 hbox hb; have n0_ := Aside0.mk (Kd.R_below (Kd.R_elderB (by (with_reducible repeat (first | apply Kd.R_alloc | apply Kd.R_drewN | apply Kd.R_drew)); exact HO_89.out) gb414 (Nat.le_of_eq hg.symm)) hb); have n1_ := Aside0.mk (below_step (by repeat (first | (with_reducible first | exact HB.out | apply below_alloc | apply pw_below_drewN | apply below_drew1) | exact HB.out)) hb); have n2_ := Aside0.mk (hbox); have n3_ := Aside0.mk ((by rw [hg]; exact (below_size (by repeat (first | (with_reducible first | exact HB.out | apply below_alloc | apply pw_below_drewN | apply below_drew1) | exact HB.out))) : w.heap.size ≤ gb414)); have n4_ := Aside0.mk ((by rw [hg]; exact (below_size (by repeat (first | (with_reducible first | exact HB.out | apply below_alloc | apply pw_below_drewN | apply below_drew1) | exact HB.out))) : w.heap.size ≤ gb414)); clear HO_89; clear HB; have HO_89 := n0_; have HB := n1_; have BK414 := n2_; have GW414 := n3_; have GE414 := n4_; clear n0_ n1_ n2_ n3_ n4_; clear hb hbox hg; have hcz33_0 : w32.cell? ⟨gb414, 0, none⟩ = some (.int .i64 0) := (blk_cell BK414.out 0).trans rfl; have hcz33_1 : w32.cell? ⟨gb414, 1, none⟩ = some (.int .i64 0) := (blk_cell BK414.out 1).trans rfl; have hcz33_2 : w32.cell? ⟨gb414, 2, none⟩ = some (.string (⟨#[]⟩ : ByteArray)) := (blk_cell BK414.out 2).trans rfl; have hfz33_0 := blk_frozen BK414.out 0; have hfz33_1 := blk_frozen BK414.out 1; have hfz33_2 := blk_frozen BK414.out 2)); try go_wp2_with (first | ((with_reducible refine gate_dst (N := 14) rfl ?_); (try (refine gate_guard (by rfl) ?_; dsimp only)); refine box_event ?hg (N := 14) ?hd (cs := #[.int .i64 0, .int .i64 0, .string (⟨#[]⟩ : ByteArray)]) (t := 42) ?hr ?_; (case hd => rfl); (case hg => rfl); (case hr => first | (go_simp; done) | (go_simp; rfl)); intro gb414 hg w32 hbox hb; have n0_ := Aside0.mk (Kd.R_below (Kd.R_elderB (by (with_reducible repeat (first | apply Kd.R_alloc | apply Kd.R_drewN | apply Kd.R_drew)); exact HO_89.out) gb414 (Nat.le_of_eq hg.symm)) hb); have n1_ := Aside0.mk (below_step (by repeat (first | (with_reducible first | exact HB.out | apply below_alloc | apply pw_below_drewN | apply below_drew1) | exact HB.out)) hb); have n2_ := Aside0.mk (hbox); have n3_ := Aside0.mk ((by rw [hg]; exact (below_size (by repeat (first | (with_reducible first | exact HB.out | apply below_alloc | apply pw_below_drewN | apply below_drew1) | exact HB.out))) : w.heap.size ≤ gb414)); have n4_ := Aside0.mk ((by rw [hg]; exact (below_size (by repeat (first | (with_reducible first | exact HB.out | apply below_alloc | apply pw_below_drewN | apply below_drew1) | exact HB.out))) : w.heap.size ≤ gb414)); clear HO_89; clear HB; have HO_89 := n0_; have HB := n1_; have BK414 := n2_; have GW414 := n3_; have GE414 := n4_; clear n0_ n1_ n2_ n3_ n4_; clear hb hbox hg; have hcz33_0 : w32.cell? ⟨gb414, 0, none⟩ = some (.int .i64 0) := (blk_cell BK414.out 0).trans rfl; have hcz33_1 : w32.cell? ⟨gb414, 1, none⟩ = some (.int .i64 0) := (blk_cell BK414.out 1).trans rfl; have hcz33_2 : w32.cell? ⟨gb414, 2, none⟩ = some (.string (⟨#[]⟩ : ByteArray)) := (blk_cell BK414.out 2).trans rfl; have hfz33_0 := blk_frozen BK414.out 0; have hfz33_1 := blk_frozen BK414.out 1; have hfz33_2 := blk_frozen BK414.out 2)))
                                  go_ret
                                  exact ⟨by first | rfl | (simp [errW_none, errW_some] <;> rfl) | (simp [*, errW_none, errW_some] <;> rfl), by repeat (first | (with_reducible first | exact HB.out | apply below_alloc | apply pw_below_drewN | apply below_drew1 | refine below_set ?_ GE414.out) | exact HB.out)⟩
                                · rw [if_neg c31] at H
                                  have c31b0 : ((a0.extract (((rd_T42 t399 x91_3).f0) : Int).toNat (((rd_T42 t399 x91_3).f1) : Int).toNat).toList == ((rd_T42 t399 x91_3).f2).toList) = false := beq_eq_false_iff_ne.mpr c31
                                  have c31b1 : ((a0.extract (((rd_T42 t399 x91_3).f0) : Int).toNat (((rd_T42 t399 x91_3).f1) : Int).toNat).toList != ((rd_T42 t399 x91_3).f2).toList) = true := bne_iff_ne.mpr c31
                                  by_cases c34 : (a0.extract (((rd_T42 t399 x91_3).f0) : Int).toNat (((rd_T42 t399 x91_3).f1) : Int).toNat).toList = ([] : List UInt8)
                                  · rw [if_pos c34] at H
                                    have c34b0 : ((a0.extract (((rd_T42 t399 x91_3).f0) : Int).toNat (((rd_T42 t399 x91_3).f1) : Int).toNat).toList == ([] : List UInt8)) = true := beq_iff_eq.mpr c34
                                    have c34b1 : ((a0.extract (((rd_T42 t399 x91_3).f0) : Int).toNat (((rd_T42 t399 x91_3).f1) : Int).toNat).toList != ([] : List UInt8)) = false := bne_eq_false_iff_eq.mpr c34
                                    clear c34
                                    have H' := Aside0.mk H
                                    clear H
                                    have p413 : 0 ≤ (x91_3 : Int) := of_decide_eq_true (by first | (with_reducible assumption) | assumption)
                                    have q413 : x91_3 < (t399.length : Int) := of_decide_eq_true (by first | (with_reducible assumption) | assumption)
                                    obtain ⟨ad413, e413, hx413_0, hx413_1, hx413_2⟩ := at_T42 (Kd.R_reads' HO_89.out).2.2 x91_3 p413 q413
                                    cases e413
                                    replace p413 := eq_true p413
                                    replace q413 := eq_true q413
                                    go_wp2_with (first | ((with_reducible refine gate_dst (N := 14) rfl ?_); (try (refine gate_guard (by rfl) ?_; dsimp only)); refine box_event ?hg (N := 14) ?hd (cs := #[.int .i64 0, .int .i64 0, .string (⟨#[]⟩ : ByteArray)]) (t := 42) ?hr ?_; (case hd => rfl); (case hg => rfl); (case hr => first | (go_simp; done) | (go_simp; rfl)); intro gb414 hg w35 hbox hb; have n0_ := Aside0.mk (Kd.R_below (Kd.R_elderB (by (with_reducible repeat (first | apply Kd.R_alloc | apply Kd.R_drewN | apply Kd.R_drew)); exact HO_89.out) gb414 (Nat.le_of_eq hg.symm)) hb); have n1_ := Aside0.mk (below_step (by repeat (first | (with_reducible first | exact HB.out | apply below_alloc | apply pw_below_drewN | apply below_drew1) | exact HB.out)) hb); have n2_ := Aside0.mk (hbox); have n3_ := Aside0.mk ((by rw [hg]; exact (below_size (by repeat (first | (with_reducible first | exact HB.out | apply below_alloc | apply pw_below_drewN | apply below_drew1) | exact HB.out))) : w.heap.size ≤ gb414)); have n4_ := Aside0.mk ((by rw [hg]; exact (below_size (by repeat (first | (with_reducible first | exact HB.out | apply below_alloc | apply pw_below_drewN | apply below_drew1) | exact HB.out))) : w.heap.size ≤ gb414)); clear HO_89; clear HB; have HO_89 := n0_; have HB := n1_; have BK414 := n2_; have GW414 := n3_; have GE414 := n4_; clear n0_ n1_ n2_ n3_ n4_; clear hb hbox hg; have hcz36_0 : w35.cell? ⟨gb414, 0, none⟩ = some (.int .i64 0) := (blk_cell BK414.out 0).trans rfl; have hcz36_1 : w35.cell? ⟨gb414, 1, none⟩ = some (.int .i64 0) := (blk_cell BK414.out 1).trans rfl; have hcz36_2 : w35.cell? ⟨gb414, 2, none⟩ = some (.string (⟨#[]⟩ : ByteArray)) := (blk_cell BK414.out 2).trans rfl; have hfz36_0 := blk_frozen BK414.out 0; have hfz36_1 := blk_frozen BK414.out 1; have hfz36_2 := blk_frozen BK414.out 2))
                                    repeat (go_quiet (first | ((with_reducible refine gate_dst (N := 14) rfl ?_); (try (refine gate_guard (by rfl) ?_; dsimp only)); refine box_event ?hg (N := 14) ?hd (cs := #[.int .i64 0, .int .i64 0, .string (⟨#[]⟩ : ByteArray)]) (t := 42) ?hr ?_; (case hd => rfl); (case hg => rfl); (case hr => first | (go_simp; done) | (go_simp; rfl)); intro gb414 hg w35 hbox hb; have n0_ := Aside0.mk (Kd.R_below (Kd.R_elderB (by (with_reducible repeat (first | apply Kd.R_alloc | apply Kd.R_drewN | apply Kd.R_drew)); exact HO_89.out) gb414 (Nat.le_of_eq hg.symm)) hb); have n1_ := Aside0.mk (below_step (by repeat (first | (with_reducible first | exact HB.out | apply below_alloc | apply pw_below_drewN | apply below_drew1) | exact HB.out)) hb); have n2_ := Aside0.mk (hbox); have n3_ := Aside0.mk ((by rw [hg]; exact (below_size (by repeat (first | (with_reducible first | exact HB.out | apply below_alloc | apply pw_below_drewN | apply below_drew1) | exact HB.out))) : w.heap.size ≤ gb414)); have n4_ := Aside0.mk ((by rw [hg]; exact (below_size (by repeat (first | (with_reducible first | exact HB.out | apply below_alloc | apply pw_below_drewN | apply below_drew1) | exact HB.out))) : w.heap.size ≤ gb414)); clear HO_89; clear HB; have HO_89 := n0_; have HB := n1_; have BK414 := n2_; have GW414 := n3_; have GE414 := n4_; clear n0_ n1_ n2_ n3_ n4_; clear hb hbox hg; have hcz36_0 : w35.cell? ⟨gb414, 0, none⟩ = some (.int .i64 0) := (blk_cell BK414.out 0).trans rfl; have hcz36_1 : w35.cell? ⟨gb414, 1, none⟩ = some (.int .i64 0) := (blk_cell BK414.out 1).trans rfl; have hcz36_2 : w35.cell? ⟨gb414, 2, none⟩ = some (.string (⟨#[]⟩ : ByteArray)) := (blk_cell BK414.out 2).trans rfl; have hfz36_0 := blk_frozen BK414.out 0; have hfz36_1 := blk_frozen BK414.out 1; have hfz36_2 := blk_frozen BK414.out 2)); try go_wp2_with (first | ((with_reducible refine gate_dst (N := 14) rfl ?_); (try (refine gate_guard (by rfl) ?_; dsimp only)); refine box_event ?hg (N := 14) ?hd (cs := #[.int .i64 0, .int .i64 0, .string (⟨#[]⟩ : ByteArray)]) (t := 42) ?hr ?_; (case hd => rfl); (case hg => rfl); (case hr => first | (go_simp; done) | (go_simp; rfl)); intro gb414 hg w35 hbox hb; have n0_ := Aside0.mk (Kd.R_below (Kd.R_elderB (by (with_reducible repeat (first | apply Kd.R_alloc | apply Kd.R_drewN | apply Kd.R_drew)); exact HO_89.out) gb414 (Nat.le_of_eq hg.symm)) hb); have n1_ := Aside0.mk (below_step (by repeat (first | (with_reducible first | exact HB.out | apply below_alloc | apply pw_below_drewN | apply below_drew1) | exact HB.out)) hb); have n2_ := Aside0.mk (hbox); have n3_ := Aside0.mk ((by rw [hg]; exact (below_size (by repeat (first | (with_reducible first | exact HB.out | apply below_alloc | apply pw_below_drewN | apply below_drew1) | exact HB.out))) : w.heap.size ≤ gb414)); have n4_ := Aside0.mk ((by rw [hg]; exact (below_size (by repeat (first | (with_reducible first | exact HB.out | apply below_alloc | apply pw_below_drewN | apply below_drew1) | exact HB.out))) : w.heap.size ≤ gb414)); clear HO_89; clear HB; have HO_89 := n0_; have HB := n1_; have BK414 := n2_; have GW414 := n3_; have GE414 := n4_; clear n0_ n1_ n2_ n3_ n4_; clear hb hbox hg; have hcz36_0 : w35.cell? ⟨gb414, 0, none⟩ = some (.int .i64 0) := (blk_cell BK414.out 0).trans rfl; have hcz36_1 : w35.cell? ⟨gb414, 1, none⟩ = some (.int .i64 0) := (blk_cell BK414.out 1).trans rfl; have hcz36_2 : w35.cell? ⟨gb414, 2, none⟩ = some (.string (⟨#[]⟩ : ByteArray)) := (blk_cell BK414.out 2).trans rfl; have hfz36_0 := blk_frozen BK414.out 0; have hfz36_1 := blk_frozen BK414.out 1; have hfz36_2 := blk_frozen BK414.out 2)))
                                    go_roundg k3
                                    case measure => have := HJ7.out; have := HJ21.out; have := HK3.out; omega
                                    case rel => exact ⟨(wrap64 (x91_3 + 1)), (by first | rfl | (simp; done) | (simp [*]; done)), H', ⟨by have := HJ7.out; have := HJ21.out; have := HK3.out; omega⟩, ⟨by (with_reducible repeat (first | apply Kd.R_alloc | apply Kd.R_drewN | apply Kd.R_drew)); exact Kd.R_mono (Kd.R_far (p := ⟨gb414, 2, none⟩) (Kd.R_far (p := ⟨gb414, 1, none⟩) (Kd.R_far (p := ⟨gb414, 0, none⟩) (Kd.R_mono HO_89.out (fun k_ hk => (⟨hk, hk.2⟩ : _ ∧ k_ ≠ gb414))) (fun _ hk => hk.2) (.int .i64 ((rd_T42 t399 x91_3).f0))) (fun _ hk => hk.2) (.int .i64 ((rd_T42 t399 x91_3).f1))) (fun _ hk => hk.2) (.string ((rd_T42 t399 x91_3).f2))) (fun _ hk => trivial)⟩, ⟨by repeat (first | (with_reducible first | exact HB.out | apply below_alloc | apply pw_below_drewN | apply below_drew1 | refine below_set ?_ GE414.out) | exact HB.out)⟩⟩
                                  · rw [if_neg c34] at H
                                    have c34b0 : ((a0.extract (((rd_T42 t399 x91_3).f0) : Int).toNat (((rd_T42 t399 x91_3).f1) : Int).toNat).toList == ([] : List UInt8)) = false := beq_eq_false_iff_ne.mpr c34
                                    have c34b1 : ((a0.extract (((rd_T42 t399 x91_3).f0) : Int).toNat (((rd_T42 t399 x91_3).f1) : Int).toNat).toList != ([] : List UInt8)) = true := bne_iff_ne.mpr c34
                                    by_cases c37 : ((rd_T42 t399 x91_3).f2).toList = ([] : List UInt8)
                                    · rw [if_pos c37] at H
                                      have c37b0 : (((rd_T42 t399 x91_3).f2).toList == ([] : List UInt8)) = true := beq_iff_eq.mpr c37
                                      have c37b1 : (((rd_T42 t399 x91_3).f2).toList != ([] : List UInt8)) = false := bne_eq_false_iff_eq.mpr c37
                                      clear c37
                                      have H' := Aside0.mk H
                                      clear H
                                      have p413 : 0 ≤ (x91_3 : Int) := of_decide_eq_true (by first | (with_reducible assumption) | assumption)
                                      have q413 : x91_3 < (t399.length : Int) := of_decide_eq_true (by first | (with_reducible assumption) | assumption)
                                      obtain ⟨ad413, e413, hx413_0, hx413_1, hx413_2⟩ := at_T42 (Kd.R_reads' HO_89.out).2.2 x91_3 p413 q413
                                      cases e413
                                      replace p413 := eq_true p413
                                      replace q413 := eq_true q413
                                      go_wp2_with (first | ((with_reducible refine gate_dst (N := 14) rfl ?_); (try (refine gate_guard (by rfl) ?_; dsimp only)); refine box_event ?hg (N := 14) ?hd (cs := #[.int .i64 0, .int .i64 0, .string (⟨#[]⟩ : ByteArray)]) (t := 42) ?hr ?_; (case hd => rfl); (case hg => rfl); (case hr => first | (go_simp; done) | (go_simp; rfl)); intro gb414 hg w38 hbox hb; have n0_ := Aside0.mk (Kd.R_below (Kd.R_elderB (by (with_reducible repeat (first | apply Kd.R_alloc | apply Kd.R_drewN | apply Kd.R_drew)); exact HO_89.out) gb414 (Nat.le_of_eq hg.symm)) hb); have n1_ := Aside0.mk (below_step (by repeat (first | (with_reducible first | exact HB.out | apply below_alloc | apply pw_below_drewN | apply below_drew1) | exact HB.out)) hb); have n2_ := Aside0.mk (hbox); have n3_ := Aside0.mk ((by rw [hg]; exact (below_size (by repeat (first | (with_reducible first | exact HB.out | apply below_alloc | apply pw_below_drewN | apply below_drew1) | exact HB.out))) : w.heap.size ≤ gb414)); have n4_ := Aside0.mk ((by rw [hg]; exact (below_size (by repeat (first | (with_reducible first | exact HB.out | apply below_alloc | apply pw_below_drewN | apply below_drew1) | exact HB.out))) : w.heap.size ≤ gb414)); clear HO_89; clear HB; have HO_89 := n0_; have HB := n1_; have BK414 := n2_; have GW414 := n3_; have GE414 := n4_; clear n0_ n1_ n2_ n3_ n4_; clear hb hbox hg; have hcz39_0 : w38.cell? ⟨gb414, 0, none⟩ = some (.int .i64 0) := (blk_cell BK414.out 0).trans rfl; have hcz39_1 : w38.cell? ⟨gb414, 1, none⟩ = some (.int .i64 0) := (blk_cell BK414.out 1).trans rfl; have hcz39_2 : w38.cell? ⟨gb414, 2, none⟩ = some (.string (⟨#[]⟩ : ByteArray)) := (blk_cell BK414.out 2).trans rfl; have hfz39_0 := blk_frozen BK414.out 0; have hfz39_1 := blk_frozen BK414.out 1; have hfz39_2 := blk_frozen BK414.out 2))
                                      repeat (go_quiet (first | ((with_reducible refine gate_dst (N := 14) rfl ?_); (try (refine gate_guard (by rfl) ?_; dsimp only)); refine box_event ?hg (N := 14) ?hd (cs := #[.int .i64 0, .int .i64 0, .string (⟨#[]⟩ : ByteArray)]) (t := 42) ?hr ?_; (case hd => rfl); (case hg => rfl); (case hr => first | (go_simp; done) | (go_simp; rfl)); intro gb414 hg w38 hbox hb; have n0_ := Aside0.mk (Kd.R_below (Kd.R_elderB (by (with_reducible repeat (first | apply Kd.R_alloc | apply Kd.R_drewN | apply Kd.R_drew)); exact HO_89.out) gb414 (Nat.le_of_eq hg.symm)) hb); have n1_ := Aside0.mk (below_step (by repeat (first | (with_reducible first | exact HB.out | apply below_alloc | apply pw_below_drewN | apply below_drew1) | exact HB.out)) hb); have n2_ := Aside0.mk (hbox); have n3_ := Aside0.mk ((by rw [hg]; exact (below_size (by repeat (first | (with_reducible first | exact HB.out | apply below_alloc | apply pw_below_drewN | apply below_drew1) | exact HB.out))) : w.heap.size ≤ gb414)); have n4_ := Aside0.mk ((by rw [hg]; exact (below_size (by repeat (first | (with_reducible first | exact HB.out | apply below_alloc | apply pw_below_drewN | apply below_drew1) | exact HB.out))) : w.heap.size ≤ gb414)); clear HO_89; clear HB; have HO_89 := n0_; have HB := n1_; have BK414 := n2_; have GW414 := n3_; have GE414 := n4_; clear n0_ n1_ n2_ n3_ n4_; clear hb hbox hg; have hcz39_0 : w38.cell? ⟨gb414, 0, none⟩ = some (.int .i64 0) := (blk_cell BK414.out 0).trans rfl; have hcz39_1 : w38.cell? ⟨gb414, 1, none⟩ = some (.int .i64 0) := (blk_cell BK414.out 1).trans rfl; have hcz39_2 : w38.cell? ⟨gb414, 2, none⟩ = some (.string (⟨#[]⟩ : ByteArray)) := (blk_cell BK414.out 2).trans rfl; have hfz39_0 := blk_frozen BK414.out 0; have hfz39_1 := blk_frozen BK414.out 1; have hfz39_2 := blk_frozen BK414.out 2)); try go_wp2_with (first | ((with_reducible refine gate_dst (N := 14) rfl ?_); (try (refine gate_guard (by rfl) ?_; dsimp only)); refine box_event ?hg (N := 14) ?hd (cs := #[.int .i64 0, .int .i64 0, .string (⟨#[]⟩ : ByteArray)]) (t := 42) ?hr ?_; (case hd => rfl); (case hg => rfl); (case hr => first | (go_simp; done) | (go_simp; rfl)); intro gb414 hg w38 hbox hb; have n0_ := Aside0.mk (Kd.R_below (Kd.R_elderB (by (with_reducible repeat (first | apply Kd.R_alloc | apply Kd.R_drewN | apply Kd.R_drew)); exact HO_89.out) gb414 (Nat.le_of_eq hg.symm)) hb); have n1_ := Aside0.mk (below_step (by repeat (first | (with_reducible first | exact HB.out | apply below_alloc | apply pw_below_drewN | apply below_drew1) | exact HB.out)) hb); have n2_ := Aside0.mk (hbox); have n3_ := Aside0.mk ((by rw [hg]; exact (below_size (by repeat (first | (with_reducible first | exact HB.out | apply below_alloc | apply pw_below_drewN | apply below_drew1) | exact HB.out))) : w.heap.size ≤ gb414)); have n4_ := Aside0.mk ((by rw [hg]; exact (below_size (by repeat (first | (with_reducible first | exact HB.out | apply below_alloc | apply pw_below_drewN | apply below_drew1) | exact HB.out))) : w.heap.size ≤ gb414)); clear HO_89; clear HB; have HO_89 := n0_; have HB := n1_; have BK414 := n2_; have GW414 := n3_; have GE414 := n4_; clear n0_ n1_ n2_ n3_ n4_; clear hb hbox hg; have hcz39_0 : w38.cell? ⟨gb414, 0, none⟩ = some (.int .i64 0) := (blk_cell BK414.out 0).trans rfl; have hcz39_1 : w38.cell? ⟨gb414, 1, none⟩ = some (.int .i64 0) := (blk_cell BK414.out 1).trans rfl; have hcz39_2 : w38.cell? ⟨gb414, 2, none⟩ = some (.string (⟨#[]⟩ : ByteArray)) := (blk_cell BK414.out 2).trans rfl; have hfz39_0 := blk_frozen BK414.out 0; have hfz39_1 := blk_frozen BK414.out 1; have hfz39_2 := blk_frozen BK414.out 2)))
                                      go_roundg k3
                                      case measure => have := HJ7.out; have := HJ21.out; have := HK3.out; omega
                                      case rel => exact ⟨(wrap64 (x91_3 + 1)), (by first | rfl | (simp; done) | (simp [*]; done)), H', ⟨by have := HJ7.out; have := HJ21.out; have := HK3.out; omega⟩, ⟨by (with_reducible repeat (first | apply Kd.R_alloc | apply Kd.R_drewN | apply Kd.R_drew)); exact Kd.R_mono (Kd.R_far (p := ⟨gb414, 2, none⟩) (Kd.R_far (p := ⟨gb414, 1, none⟩) (Kd.R_far (p := ⟨gb414, 0, none⟩) (Kd.R_mono HO_89.out (fun k_ hk => (⟨hk, hk.2⟩ : _ ∧ k_ ≠ gb414))) (fun _ hk => hk.2) (.int .i64 ((rd_T42 t399 x91_3).f0))) (fun _ hk => hk.2) (.int .i64 ((rd_T42 t399 x91_3).f1))) (fun _ hk => hk.2) (.string ((rd_T42 t399 x91_3).f2))) (fun _ hk => trivial)⟩, ⟨by repeat (first | (with_reducible first | exact HB.out | apply below_alloc | apply pw_below_drewN | apply below_drew1 | refine below_set ?_ GE414.out) | exact HB.out)⟩⟩
                                    · rw [if_neg c37] at H
                                      have c37b0 : (((rd_T42 t399 x91_3).f2).toList == ([] : List UInt8)) = false := beq_eq_false_iff_ne.mpr c37
                                      have c37b1 : (((rd_T42 t399 x91_3).f2).toList != ([] : List UInt8)) = true := bne_iff_ne.mpr c37
                                      by_cases c40 : 0 < (((((rd_T42 t399 x91_3).f1) : Int).toNat - (((rd_T42 t399 x91_3).f0) : Int).toNat : Nat) : Int)
                                      · rw [if_pos c40] at H
                                        have c40b0 : decide (0 < (((((rd_T42 t399 x91_3).f1) : Int).toNat - (((rd_T42 t399 x91_3).f0) : Int).toNat : Nat) : Int)) = true := decide_eq_true c40
                                        try (have c40b0x := c40b0; simp only [ByteArray.size_extract, Nat.min_self] at c40b0x)
                                        try (first | have c40b0y := eq_true (of_decide_eq_true c40b0x) | have c40b0y := eq_false (of_decide_eq_false c40b0x))
                                        have c40b1 : decide (0 < ((((rd_T42 t399 x91_3).f1) : Int).toNat - (((rd_T42 t399 x91_3).f0) : Int).toNat : Nat)) = true := decide_eq_true (by omega)
                                        have c40z1 := eq_true (of_decide_eq_true c40b1)
                                        try (have c40b1x := c40b1; simp only [ByteArray.size_extract, Nat.min_self] at c40b1x)
                                        try (first | have c40b1y := eq_true (of_decide_eq_true c40b1x) | have c40b1y := eq_false (of_decide_eq_false c40b1x))
                                        clear c40
                                        by_cases c42 : 0 < (((rd_T42 t399 x91_3).f2).size : Int)
                                        · rw [if_pos c42] at H
                                          have c42b0 : decide (0 < (((rd_T42 t399 x91_3).f2).size : Int)) = true := decide_eq_true c42
                                          have c42b1 : decide (0 < ((rd_T42 t399 x91_3).f2).size) = true := decide_eq_true (by omega)
                                          have c42z1 := eq_true (of_decide_eq_true c42b1)
                                          clear c42
                                          by_cases c44 : (bt (a0.extract (((rd_T42 t399 x91_3).f0) : Int).toNat (((rd_T42 t399 x91_3).f1) : Int).toNat) 0) = (bt ((rd_T42 t399 x91_3).f2) 0)
                                          · rw [if_pos c44] at H
                                            have c44b0 : ((bt (a0.extract (((rd_T42 t399 x91_3).f0) : Int).toNat (((rd_T42 t399 x91_3).f1) : Int).toNat) 0) == (bt ((rd_T42 t399 x91_3).f2) 0)) = true := beq_iff_eq.mpr c44
                                            have c44b1 : ((bt (a0.extract (((rd_T42 t399 x91_3).f0) : Int).toNat (((rd_T42 t399 x91_3).f1) : Int).toNat) 0) != (bt ((rd_T42 t399 x91_3).f2) 0)) = false := bne_eq_false_iff_eq.mpr c44
                                            clear c44
                                            obtain rfl := Option.some.inj H
                                            have p413 : 0 ≤ (x91_3 : Int) := of_decide_eq_true (by first | (with_reducible assumption) | assumption)
                                            have q413 : x91_3 < (t399.length : Int) := of_decide_eq_true (by first | (with_reducible assumption) | assumption)
                                            obtain ⟨ad413, e413, hx413_0, hx413_1, hx413_2⟩ := at_T42 (Kd.R_reads' HO_89.out).2.2 x91_3 p413 q413
                                            cases e413
                                            replace p413 := eq_true p413
                                            replace q413 := eq_true q413
                                            go_wp2_with (first | ((with_reducible refine gate_dst (N := 14) rfl ?_); (try (refine gate_guard (by rfl) ?_; dsimp only)); refine box_event ?hg (N := 14) ?hd (cs := #[.int .i64 0, .int .i64 0, .string (⟨#[]⟩ : ByteArray)]) (t := 42) ?hr ?_; (case hd => rfl); (case hg => rfl); (case hr => first | (go_simp; done) | (go_simp; rfl)); intro gb414 hg w45 hbox hb; have n0_ := Aside0.mk (Kd.R_below (Kd.R_elderB (by (with_reducible repeat (first | apply Kd.R_alloc | apply Kd.R_drewN | apply Kd.R_drew)); exact HO_89.out) gb414 (Nat.le_of_eq hg.symm)) hb); have n1_ := Aside0.mk (below_step (by repeat (first | (with_reducible first | exact HB.out | apply below_alloc | apply pw_below_drewN | apply below_drew1) | exact HB.out)) hb); have n2_ := Aside0.mk (hbox); have n3_ := Aside0.mk ((by rw [hg]; exact (below_size (by repeat (first | (with_reducible first | exact HB.out | apply below_alloc | apply pw_below_drewN | apply below_drew1) | exact HB.out))) : w.heap.size ≤ gb414)); have n4_ := Aside0.mk ((by rw [hg]; exact (below_size (by repeat (first | (with_reducible first | exact HB.out | apply below_alloc | apply pw_below_drewN | apply below_drew1) | exact HB.out))) : w.heap.size ≤ gb414)); clear HO_89; clear HB; have HO_89 := n0_; have HB := n1_; have BK414 := n2_; have GW414 := n3_; have GE414 := n4_; clear n0_ n1_ n2_ n3_ n4_; clear hb hbox hg; have hcz46_0 : w45.cell? ⟨gb414, 0, none⟩ = some (.int .i64 0) := (blk_cell BK414.out 0).trans rfl; have hcz46_1 : w45.cell? ⟨gb414, 1, none⟩ = some (.int .i64 0) := (blk_cell BK414.out 1).trans rfl; have hcz46_2 : w45.cell? ⟨gb414, 2, none⟩ = some (.string (⟨#[]⟩ : ByteArray)) := (blk_cell BK414.out 2).trans rfl; have hfz46_0 := blk_frozen BK414.out 0; have hfz46_1 := blk_frozen BK414.out 1; have hfz46_2 := blk_frozen BK414.out 2; have p41 : 0 ≤ (0 : Int) := (by omega); have q41 : 0 < ((((rd_T42 t399 x91_3).f1) : Int).toNat - (((rd_T42 t399 x91_3).f0) : Int).toNat : Nat) := (by have : (0 : Int) < (((((rd_T42 t399 x91_3).f1) : Int).toNat - (((rd_T42 t399 x91_3).f0) : Int).toNat : Nat) : Int) := of_decide_eq_true (by first | (with_reducible assumption) | assumption); omega); have hx41 : ∀ h, (((a0.extract (((rd_T42 t399 x91_3).f0) : Int).toNat (((rd_T42 t399 x91_3).f1) : Int).toNat)[0]'h).toNat : Int) = bt (a0.extract (((rd_T42 t399 x91_3).f0) : Int).toNat (((rd_T42 t399 x91_3).f1) : Int).toNat) 0 := bt_at (a0.extract (((rd_T42 t399 x91_3).f0) : Int).toNat (((rd_T42 t399 x91_3).f1) : Int).toNat) 0; clear p41; have qi41 : (0 < (((((rd_T42 t399 x91_3).f1) : Int).toNat - (((rd_T42 t399 x91_3).f0) : Int).toNat : Nat) : Int)) = True := eq_true (of_decide_eq_true (by first | (with_reducible assumption) | assumption)); replace q41 := eq_true q41; have p43 : 0 ≤ (0 : Int) := (by omega); have q43 : 0 < ((rd_T42 t399 x91_3).f2).size := (by have : (0 : Int) < (((rd_T42 t399 x91_3).f2).size : Int) := of_decide_eq_true (by first | (with_reducible assumption) | assumption); omega); have hx43 : ∀ h, ((((rd_T42 t399 x91_3).f2)[0]'h).toNat : Int) = bt ((rd_T42 t399 x91_3).f2) 0 := bt_at ((rd_T42 t399 x91_3).f2) 0; clear p43; have qi43 : (0 < (((rd_T42 t399 x91_3).f2).size : Int)) = True := eq_true (of_decide_eq_true (by first | (with_reducible assumption) | assumption)); replace q43 := eq_true q43))
                                            repeat (go_quiet (first | ((with_reducible refine gate_dst (N := 14) rfl ?_); (try (refine gate_guard (by rfl) ?_; dsimp only)); refine box_event ?hg (N := 14) ?hd (cs := #[.int .i64 0, .int .i64 0, .string (⟨#[]⟩ : ByteArray)]) (t := 42) ?hr ?_; (case hd => rfl); (case hg => rfl); (case hr => first | (go_simp; done) | (go_simp; rfl)); intro gb414 hg w45 hbox hb; have n0_ := Aside0.mk (Kd.R_below (Kd.R_elderB (by (with_reducible repeat (first | apply Kd.R_alloc | apply Kd.R_drewN | apply Kd.R_drew)); exact HO_89.out) gb414 (Nat.le_of_eq hg.symm)) hb); have n1_ := Aside0.mk (below_step (by repeat (first | (with_reducible first | exact HB.out | apply below_alloc | apply pw_below_drewN | apply below_drew1) | exact HB.out)) hb); have n2_ := Aside0.mk (hbox); have n3_ := Aside0.mk ((by rw [hg]; exact (below_size (by repeat (first | (with_reducible first | exact HB.out | apply below_alloc | apply pw_below_drewN | apply below_drew1) | exact HB.out))) : w.heap.size ≤ gb414)); have n4_ := Aside0.mk ((by rw [hg]; exact (below_size (by repeat (first | (with_reducible first | exact HB.out | apply below_alloc | apply pw_below_drewN | apply below_drew1) | exact HB.out))) : w.heap.size ≤ gb414)); clear HO_89; clear HB; have HO_89 := n0_; have HB := n1_; have BK414 := n2_; have GW414 := n3_; have GE414 := n4_; clear n0_ n1_ n2_ n3_ n4_; clear hb hbox hg; have hcz46_0 : w45.cell? ⟨gb414, 0, none⟩ = some (.int .i64 0) := (blk_cell BK414.out 0).trans rfl; have hcz46_1 : w45.cell? ⟨gb414, 1, none⟩ = some (.int .i64 0) := (blk_cell BK414.out 1).trans rfl; have hcz46_2 : w45.cell? ⟨gb414, 2, none⟩ = some (.string (⟨#[]⟩ : ByteArray)) := (blk_cell BK414.out 2).trans rfl; have hfz46_0 := blk_frozen BK414.out 0; have hfz46_1 := blk_frozen BK414.out 1; have hfz46_2 := blk_frozen BK414.out 2; have p41 : 0 ≤ (0 : Int) := (by omega); have q41 : 0 < ((((rd_T42 t399 x91_3).f1) : Int).toNat - (((rd_T42 t399 x91_3).f0) : Int).toNat : Nat) := (by have : (0 : Int) < (((((rd_T42 t399 x91_3).f1) : Int).toNat - (((rd_T42 t399 x91_3).f0) : Int).toNat : Nat) : Int) := of_decide_eq_true (by first | (with_reducible assumption) | assumption); omega); have hx41 : ∀ h, (((a0.extract (((rd_T42 t399 x91_3).f0) : Int).toNat (((rd_T42 t399 x91_3).f1) : Int).toNat)[0]'h).toNat : Int) = bt (a0.extract (((rd_T42 t399 x91_3).f0) : Int).toNat (((rd_T42 t399 x91_3).f1) : Int).toNat) 0 := bt_at (a0.extract (((rd_T42 t399 x91_3).f0) : Int).toNat (((rd_T42 t399 x91_3).f1) : Int).toNat) 0; clear p41; have qi41 : (0 < (((((rd_T42 t399 x91_3).f1) : Int).toNat - (((rd_T42 t399 x91_3).f0) : Int).toNat : Nat) : Int)) = True := eq_true (of_decide_eq_true (by first | (with_reducible assumption) | assumption)); replace q41 := eq_true q41; have p43 : 0 ≤ (0 : Int) := (by omega); have q43 : 0 < ((rd_T42 t399 x91_3).f2).size := (by have : (0 : Int) < (((rd_T42 t399 x91_3).f2).size : Int) := of_decide_eq_true (by first | (with_reducible assumption) | assumption); omega); have hx43 : ∀ h, ((((rd_T42 t399 x91_3).f2)[0]'h).toNat : Int) = bt ((rd_T42 t399 x91_3).f2) 0 := bt_at ((rd_T42 t399 x91_3).f2) 0; clear p43; have qi43 : (0 < (((rd_T42 t399 x91_3).f2).size : Int)) = True := eq_true (of_decide_eq_true (by first | (with_reducible assumption) | assumption)); replace q43 := eq_true q43)); try go_wp2_with (first | ((with_reducible refine gate_dst (N := 14) rfl ?_); (try (refine gate_guard (by rfl) ?_; dsimp only)); refine box_event ?hg (N := 14) ?hd (cs := #[.int .i64 0, .int .i64 0, .string (⟨#[]⟩ : ByteArray)]) (t := 42) ?hr ?_; (case hd => rfl); (case hg => rfl); (case hr => first | (go_simp; done) | (go_simp; rfl)); intro gb414 hg w45 hbox hb; have n0_ := Aside0.mk (Kd.R_below (Kd.R_elderB (by (with_reducible repeat (first | apply Kd.R_alloc | apply Kd.R_drewN | apply Kd.R_drew)); exact HO_89.out) gb414 (Nat.le_of_eq hg.symm)) hb); have n1_ := Aside0.mk (below_step (by repeat (first | (with_reducible first | exact HB.out | apply below_alloc | apply pw_below_drewN | apply below_drew1) | exact HB.out)) hb); have n2_ := Aside0.mk (hbox); have n3_ := Aside0.mk ((by rw [hg]; exact (below_size (by repeat (first | (with_reducible first | exact HB.out | apply below_alloc | apply pw_below_drewN | apply below_drew1) | exact HB.out))) : w.heap.size ≤ gb414)); have n4_ := Aside0.mk ((by rw [hg]; exact (below_size (by repeat (first | (with_reducible first | exact HB.out | apply below_alloc | apply pw_below_drewN | apply below_drew1) | exact HB.out))) : w.heap.size ≤ gb414)); clear HO_89; clear HB; have HO_89 := n0_; have HB := n1_; have BK414 := n2_; have GW414 := n3_; have GE414 := n4_; clear n0_ n1_ n2_ n3_ n4_; clear hb hbox hg; have hcz46_0 : w45.cell? ⟨gb414, 0, none⟩ = some (.int .i64 0) := (blk_cell BK414.out 0).trans rfl; have hcz46_1 : w45.cell? ⟨gb414, 1, none⟩ = some (.int .i64 0) := (blk_cell BK414.out 1).trans rfl; have hcz46_2 : w45.cell? ⟨gb414, 2, none⟩ = some (.string (⟨#[]⟩ : ByteArray)) := (blk_cell BK414.out 2).trans rfl; have hfz46_0 := blk_frozen BK414.out 0; have hfz46_1 := blk_frozen BK414.out 1; have hfz46_2 := blk_frozen BK414.out 2; have p41 : 0 ≤ (0 : Int) := (by omega); have q41 : 0 < ((((rd_T42 t399 x91_3).f1) : Int).toNat - (((rd_T42 t399 x91_3).f0) : Int).toNat : Nat) := (by have : (0 : Int) < (((((rd_T42 t399 x91_3).f1) : Int).toNat - (((rd_T42 t399 x91_3).f0) : Int).toNat : Nat) : Int) := of_decide_eq_true (by first | (with_reducible assumption) | assumption); omega); have hx41 : ∀ h, (((a0.extract (((rd_T42 t399 x91_3).f0) : Int).toNat (((rd_T42 t399 x91_3).f1) : Int).toNat)[0]'h).toNat : Int) = bt (a0.extract (((rd_T42 t399 x91_3).f0) : Int).toNat (((rd_T42 t399 x91_3).f1) : Int).toNat) 0 := bt_at (a0.extract (((rd_T42 t399 x91_3).f0) : Int).toNat (((rd_T42 t399 x91_3).f1) : Int).toNat) 0; clear p41; have qi41 : (0 < (((((rd_T42 t399 x91_3).f1) : Int).toNat - (((rd_T42 t399 x91_3).f0) : Int).toNat : Nat) : Int)) = True := eq_true (of_decide_eq_true (by first | (with_reducible assumption) | assumption)); replace q41 := eq_true q41; have p43 : 0 ≤ (0 : Int) := (by omega); have q43 : 0 < ((rd_T42 t399 x91_3).f2).size := (by have : (0 : Int) < (((rd_T42 t399 x91_3).f2).size : Int) := of_decide_eq_true (by first | (with_reducible assumption) | assumption); omega); have hx43 : ∀ h, ((((rd_T42 t399 x91_3).f2)[0]'h).toNat : Int) = bt ((rd_T42 t399 x91_3).f2) 0 := bt_at ((rd_T42 t399 x91_3).f2) 0; clear p43; have qi43 : (0 < (((rd_T42 t399 x91_3).f2).size : Int)) = True := eq_true (of_decide_eq_true (by first | (with_reducible assumption) | assumption)); replace q43 := eq_true q43)))
                                            go_ret
                                            exact ⟨by first | rfl | (simp [errW_none, errW_some] <;> rfl) | (simp [*, errW_none, errW_some] <;> rfl), by repeat (first | (with_reducible first | exact HB.out | apply below_alloc | apply pw_below_drewN | apply below_drew1 | refine below_set ?_ GE414.out) | exact HB.out)⟩
                                          · rw [if_neg c44] at H
                                            have c44b0 : ((bt (a0.extract (((rd_T42 t399 x91_3).f0) : Int).toNat (((rd_T42 t399 x91_3).f1) : Int).toNat) 0) == (bt ((rd_T42 t399 x91_3).f2) 0)) = false := beq_eq_false_iff_ne.mpr c44
                                            have c44b1 : ((bt (a0.extract (((rd_T42 t399 x91_3).f0) : Int).toNat (((rd_T42 t399 x91_3).f1) : Int).toNat) 0) != (bt ((rd_T42 t399 x91_3).f2) 0)) = true := bne_iff_ne.mpr c44
                                            obtain ⟨ji47, hji47⟩ : ∃ j_ : Int, (wrap64 ((((((rd_T42 t399 x91_3).f1) : Int).toNat - (((rd_T42 t399 x91_3).f0) : Int).toNat : Nat) : Int) - 1)) = j_ := ⟨_, rfl⟩
                                            replace H : (if 0 ≤ (ji47) then (if (ji47) < (((((rd_T42 t399 x91_3).f1) : Int).toNat - (((rd_T42 t399 x91_3).f0) : Int).toNat : Nat) : Int) then (if 0 ≤ (wrap64 ((((rd_T42 t399 x91_3).f2).size : Int) - 1)) then (if (wrap64 ((((rd_T42 t399 x91_3).f2).size : Int) - 1)) < (((rd_T42 t399 x91_3).f2).size : Int) then (if (bt (a0.extract (((rd_T42 t399 x91_3).f0) : Int).toNat (((rd_T42 t399 x91_3).f1) : Int).toNat) (ji47)) = (bt ((rd_T42 t399 x91_3).f2) (wrap64 ((((rd_T42 t399 x91_3).f2).size : Int) - 1))) then (some false) else (monikerlaw1_EditsLeast.l0 k3 a0 t399 (t399.length : Int) (wrap64 (x91_3 + 1)))) else (none)) else (none)) else (none)) else (none)) = some r := by first | (rw [hji47] at H; exact H) | (simp only [hji47] at H ⊢; exact H)
                                            have hji47w : (IntKind.i64.wrap ((((((rd_T42 t399 x91_3).f1) : Int).toNat - (((rd_T42 t399 x91_3).f0) : Int).toNat : Nat) : Int) - 1)) = ji47 := (i64_w _).trans hji47
                                            by_cases c48 : 0 ≤ (ji47)
                                            · rw [if_pos c48] at H
                                              have c48b0 : decide (0 ≤ (ji47)) = true := decide_eq_true c48
                                              clear c48
                                              by_cases c49 : (ji47) < (((((rd_T42 t399 x91_3).f1) : Int).toNat - (((rd_T42 t399 x91_3).f0) : Int).toNat : Nat) : Int)
                                              · rw [if_pos c49] at H
                                                have c49b0 : decide ((ji47) < (((((rd_T42 t399 x91_3).f1) : Int).toNat - (((rd_T42 t399 x91_3).f0) : Int).toNat : Nat) : Int)) = true := decide_eq_true c49
                                                try (have c49b0x := c49b0; simp only [ByteArray.size_extract, Nat.min_self] at c49b0x)
                                                try (first | have c49b0y := eq_true (of_decide_eq_true c49b0x) | have c49b0y := eq_false (of_decide_eq_false c49b0x))
                                                clear c49
                                                obtain ⟨ji51, hji51⟩ : ∃ j_ : Int, (wrap64 ((((rd_T42 t399 x91_3).f2).size : Int) - 1)) = j_ := ⟨_, rfl⟩
                                                replace H : (if 0 ≤ (ji51) then (if (ji51) < (((rd_T42 t399 x91_3).f2).size : Int) then (if (bt (a0.extract (((rd_T42 t399 x91_3).f0) : Int).toNat (((rd_T42 t399 x91_3).f1) : Int).toNat) (ji47)) = (bt ((rd_T42 t399 x91_3).f2) (ji51)) then (some false) else (monikerlaw1_EditsLeast.l0 k3 a0 t399 (t399.length : Int) (wrap64 (x91_3 + 1)))) else (none)) else (none)) = some r := by first | (rw [hji51] at H; exact H) | (simp only [hji51] at H ⊢; exact H)
                                                have hji51w : (IntKind.i64.wrap ((((rd_T42 t399 x91_3).f2).size : Int) - 1)) = ji51 := (i64_w _).trans hji51
                                                by_cases c52 : 0 ≤ (ji51)
                                                · rw [if_pos c52] at H
                                                  have c52b0 : decide (0 ≤ (ji51)) = true := decide_eq_true c52
                                                  clear c52
                                                  by_cases c53 : (ji51) < (((rd_T42 t399 x91_3).f2).size : Int)
                                                  · rw [if_pos c53] at H
                                                    have c53b0 : decide ((ji51) < (((rd_T42 t399 x91_3).f2).size : Int)) = true := decide_eq_true c53
                                                    clear c53
                                                    by_cases c55 : (bt (a0.extract (((rd_T42 t399 x91_3).f0) : Int).toNat (((rd_T42 t399 x91_3).f1) : Int).toNat) (ji47)) = (bt ((rd_T42 t399 x91_3).f2) (ji51))
                                                    · rw [if_pos c55] at H
                                                      have c55b0 : ((bt (a0.extract (((rd_T42 t399 x91_3).f0) : Int).toNat (((rd_T42 t399 x91_3).f1) : Int).toNat) (ji47)) == (bt ((rd_T42 t399 x91_3).f2) (ji51))) = true := beq_iff_eq.mpr c55
                                                      have c55b1 : ((bt (a0.extract (((rd_T42 t399 x91_3).f0) : Int).toNat (((rd_T42 t399 x91_3).f1) : Int).toNat) (ji47)) != (bt ((rd_T42 t399 x91_3).f2) (ji51))) = false := bne_eq_false_iff_eq.mpr c55
                                                      clear c55
                                                      obtain rfl := Option.some.inj H
                                                      have p413 : 0 ≤ (x91_3 : Int) := of_decide_eq_true (by first | (with_reducible assumption) | assumption)
                                                      have q413 : x91_3 < (t399.length : Int) := of_decide_eq_true (by first | (with_reducible assumption) | assumption)
                                                      obtain ⟨ad413, e413, hx413_0, hx413_1, hx413_2⟩ := at_T42 (Kd.R_reads' HO_89.out).2.2 x91_3 p413 q413
                                                      cases e413
                                                      replace p413 := eq_true p413
                                                      replace q413 := eq_true q413
                                                      go_wp2_with (first | ((with_reducible refine gate_dst (N := 14) rfl ?_); (try (refine gate_guard (by rfl) ?_; dsimp only)); refine box_event ?hg (N := 14) ?hd (cs := #[.int .i64 0, .int .i64 0, .string (⟨#[]⟩ : ByteArray)]) (t := 42) ?hr ?_; (case hd => rfl); (case hg => rfl); (case hr => first | (go_simp; done) | (go_simp; rfl)); intro gb414 hg w56 hbox hb; have n0_ := Aside0.mk (Kd.R_below (Kd.R_elderB (by (with_reducible repeat (first | apply Kd.R_alloc | apply Kd.R_drewN | apply Kd.R_drew)); exact HO_89.out) gb414 (Nat.le_of_eq hg.symm)) hb); have n1_ := Aside0.mk (below_step (by repeat (first | (with_reducible first | exact HB.out | apply below_alloc | apply pw_below_drewN | apply below_drew1) | exact HB.out)) hb); have n2_ := Aside0.mk (hbox); have n3_ := Aside0.mk ((by rw [hg]; exact (below_size (by repeat (first | (with_reducible first | exact HB.out | apply below_alloc | apply pw_below_drewN | apply below_drew1) | exact HB.out))) : w.heap.size ≤ gb414)); have n4_ := Aside0.mk ((by rw [hg]; exact (below_size (by repeat (first | (with_reducible first | exact HB.out | apply below_alloc | apply pw_below_drewN | apply below_drew1) | exact HB.out))) : w.heap.size ≤ gb414)); clear HO_89; clear HB; have HO_89 := n0_; have HB := n1_; have BK414 := n2_; have GW414 := n3_; have GE414 := n4_; clear n0_ n1_ n2_ n3_ n4_; clear hb hbox hg; have hcz57_0 : w56.cell? ⟨gb414, 0, none⟩ = some (.int .i64 0) := (blk_cell BK414.out 0).trans rfl; have hcz57_1 : w56.cell? ⟨gb414, 1, none⟩ = some (.int .i64 0) := (blk_cell BK414.out 1).trans rfl; have hcz57_2 : w56.cell? ⟨gb414, 2, none⟩ = some (.string (⟨#[]⟩ : ByteArray)) := (blk_cell BK414.out 2).trans rfl; have hfz57_0 := blk_frozen BK414.out 0; have hfz57_1 := blk_frozen BK414.out 1; have hfz57_2 := blk_frozen BK414.out 2; have p41 : 0 ≤ (0 : Int) := (by omega); have q41 : 0 < ((((rd_T42 t399 x91_3).f1) : Int).toNat - (((rd_T42 t399 x91_3).f0) : Int).toNat : Nat) := (by have : (0 : Int) < (((((rd_T42 t399 x91_3).f1) : Int).toNat - (((rd_T42 t399 x91_3).f0) : Int).toNat : Nat) : Int) := of_decide_eq_true (by first | (with_reducible assumption) | assumption); omega); have hx41 : ∀ h, (((a0.extract (((rd_T42 t399 x91_3).f0) : Int).toNat (((rd_T42 t399 x91_3).f1) : Int).toNat)[0]'h).toNat : Int) = bt (a0.extract (((rd_T42 t399 x91_3).f0) : Int).toNat (((rd_T42 t399 x91_3).f1) : Int).toNat) 0 := bt_at (a0.extract (((rd_T42 t399 x91_3).f0) : Int).toNat (((rd_T42 t399 x91_3).f1) : Int).toNat) 0; clear p41; have qi41 : (0 < (((((rd_T42 t399 x91_3).f1) : Int).toNat - (((rd_T42 t399 x91_3).f0) : Int).toNat : Nat) : Int)) = True := eq_true (of_decide_eq_true (by first | (with_reducible assumption) | assumption)); replace q41 := eq_true q41; have p43 : 0 ≤ (0 : Int) := (by omega); have q43 : 0 < ((rd_T42 t399 x91_3).f2).size := (by have : (0 : Int) < (((rd_T42 t399 x91_3).f2).size : Int) := of_decide_eq_true (by first | (with_reducible assumption) | assumption); omega); have hx43 : ∀ h, ((((rd_T42 t399 x91_3).f2)[0]'h).toNat : Int) = bt ((rd_T42 t399 x91_3).f2) 0 := bt_at ((rd_T42 t399 x91_3).f2) 0; clear p43; have qi43 : (0 < (((rd_T42 t399 x91_3).f2).size : Int)) = True := eq_true (of_decide_eq_true (by first | (with_reducible assumption) | assumption)); replace q43 := eq_true q43; have p50 : 0 ≤ ((ji47) : Int) := of_decide_eq_true (by first | (with_reducible assumption) | assumption); have q50 : (ji47) < (((((rd_T42 t399 x91_3).f1) : Int).toNat - (((rd_T42 t399 x91_3).f0) : Int).toNat : Nat) : Int) := of_decide_eq_true (by first | (with_reducible assumption) | assumption); have hx50 := bt_at (a0.extract (((rd_T42 t399 x91_3).f0) : Int).toNat (((rd_T42 t399 x91_3).f1) : Int).toNat) (ji47); replace p50 := eq_true p50; replace q50 := eq_true q50; have p54 : 0 ≤ ((ji51) : Int) := of_decide_eq_true (by first | (with_reducible assumption) | assumption); have q54 : (ji51) < (((rd_T42 t399 x91_3).f2).size : Int) := of_decide_eq_true (by first | (with_reducible assumption) | assumption); have hx54 := bt_at ((rd_T42 t399 x91_3).f2) (ji51); replace p54 := eq_true p54; replace q54 := eq_true q54))
                                                      repeat (go_quiet (first | ((with_reducible refine gate_dst (N := 14) rfl ?_); (try (refine gate_guard (by rfl) ?_; dsimp only)); refine box_event ?hg (N := 14) ?hd (cs := #[.int .i64 0, .int .i64 0, .string (⟨#[]⟩ : ByteArray)]) (t := 42) ?hr ?_; (case hd => rfl); (case hg => rfl); (case hr => first | (go_simp; done) | (go_simp; rfl)); intro gb414 hg w56 hbox hb; have n0_ := Aside0.mk (Kd.R_below (Kd.R_elderB (by (with_reducible repeat (first | apply Kd.R_alloc | apply Kd.R_drewN | apply Kd.R_drew)); exact HO_89.out) gb414 (Nat.le_of_eq hg.symm)) hb); have n1_ := Aside0.mk (below_step (by repeat (first | (with_reducible first | exact HB.out | apply below_alloc | apply pw_below_drewN | apply below_drew1) | exact HB.out)) hb); have n2_ := Aside0.mk (hbox); have n3_ := Aside0.mk ((by rw [hg]; exact (below_size (by repeat (first | (with_reducible first | exact HB.out | apply below_alloc | apply pw_below_drewN | apply below_drew1) | exact HB.out))) : w.heap.size ≤ gb414)); have n4_ := Aside0.mk ((by rw [hg]; exact (below_size (by repeat (first | (with_reducible first | exact HB.out | apply below_alloc | apply pw_below_drewN | apply below_drew1) | exact HB.out))) : w.heap.size ≤ gb414)); clear HO_89; clear HB; have HO_89 := n0_; have HB := n1_; have BK414 := n2_; have GW414 := n3_; have GE414 := n4_; clear n0_ n1_ n2_ n3_ n4_; clear hb hbox hg; have hcz57_0 : w56.cell? ⟨gb414, 0, none⟩ = some (.int .i64 0) := (blk_cell BK414.out 0).trans rfl; have hcz57_1 : w56.cell? ⟨gb414, 1, none⟩ = some (.int .i64 0) := (blk_cell BK414.out 1).trans rfl; have hcz57_2 : w56.cell? ⟨gb414, 2, none⟩ = some (.string (⟨#[]⟩ : ByteArray)) := (blk_cell BK414.out 2).trans rfl; have hfz57_0 := blk_frozen BK414.out 0; have hfz57_1 := blk_frozen BK414.out 1; have hfz57_2 := blk_frozen BK414.out 2; have p41 : 0 ≤ (0 : Int) := (by omega); have q41 : 0 < ((((rd_T42 t399 x91_3).f1) : Int).toNat - (((rd_T42 t399 x91_3).f0) : Int).toNat : Nat) := (by have : (0 : Int) < (((((rd_T42 t399 x91_3).f1) : Int).toNat - (((rd_T42 t399 x91_3).f0) : Int).toNat : Nat) : Int) := of_decide_eq_true (by first | (with_reducible assumption) | assumption); omega); have hx41 : ∀ h, (((a0.extract (((rd_T42 t399 x91_3).f0) : Int).toNat (((rd_T42 t399 x91_3).f1) : Int).toNat)[0]'h).toNat : Int) = bt (a0.extract (((rd_T42 t399 x91_3).f0) : Int).toNat (((rd_T42 t399 x91_3).f1) : Int).toNat) 0 := bt_at (a0.extract (((rd_T42 t399 x91_3).f0) : Int).toNat (((rd_T42 t399 x91_3).f1) : Int).toNat) 0; clear p41; have qi41 : (0 < (((((rd_T42 t399 x91_3).f1) : Int).toNat - (((rd_T42 t399 x91_3).f0) : Int).toNat : Nat) : Int)) = True := eq_true (of_decide_eq_true (by first | (with_reducible assumption) | assumption)); replace q41 := eq_true q41; have p43 : 0 ≤ (0 : Int) := (by omega); have q43 : 0 < ((rd_T42 t399 x91_3).f2).size := (by have : (0 : Int) < (((rd_T42 t399 x91_3).f2).size : Int) := of_decide_eq_true (by first | (with_reducible assumption) | assumption); omega); have hx43 : ∀ h, ((((rd_T42 t399 x91_3).f2)[0]'h).toNat : Int) = bt ((rd_T42 t399 x91_3).f2) 0 := bt_at ((rd_T42 t399 x91_3).f2) 0; clear p43; have qi43 : (0 < (((rd_T42 t399 x91_3).f2).size : Int)) = True := eq_true (of_decide_eq_true (by first | (with_reducible assumption) | assumption)); replace q43 := eq_true q43; have p50 : 0 ≤ ((ji47) : Int) := of_decide_eq_true (by first | (with_reducible assumption) | assumption); have q50 : (ji47) < (((((rd_T42 t399 x91_3).f1) : Int).toNat - (((rd_T42 t399 x91_3).f0) : Int).toNat : Nat) : Int) := of_decide_eq_true (by first | (with_reducible assumption) | assumption); have hx50 := bt_at (a0.extract (((rd_T42 t399 x91_3).f0) : Int).toNat (((rd_T42 t399 x91_3).f1) : Int).toNat) (ji47); replace p50 := eq_true p50; replace q50 := eq_true q50; have p54 : 0 ≤ ((ji51) : Int) := of_decide_eq_true (by first | (with_reducible assumption) | assumption); have q54 : (ji51) < (((rd_T42 t399 x91_3).f2).size : Int) := of_decide_eq_true (by first | (with_reducible assumption) | assumption); have hx54 := bt_at ((rd_T42 t399 x91_3).f2) (ji51); replace p54 := eq_true p54; replace q54 := eq_true q54)); try go_wp2_with (first | ((with_reducible refine gate_dst (N := 14) rfl ?_); (try (refine gate_guard (by rfl) ?_; dsimp only)); refine box_event ?hg (N := 14) ?hd (cs := #[.int .i64 0, .int .i64 0, .string (⟨#[]⟩ : ByteArray)]) (t := 42) ?hr ?_; (case hd => rfl); (case hg => rfl); (case hr => first | (go_simp; done) | (go_simp; rfl)); intro gb414 hg w56 hbox hb; have n0_ := Aside0.mk (Kd.R_below (Kd.R_elderB (by (with_reducible repeat (first | apply Kd.R_alloc | apply Kd.R_drewN | apply Kd.R_drew)); exact HO_89.out) gb414 (Nat.le_of_eq hg.symm)) hb); have n1_ := Aside0.mk (below_step (by repeat (first | (with_reducible first | exact HB.out | apply below_alloc | apply pw_below_drewN | apply below_drew1) | exact HB.out)) hb); have n2_ := Aside0.mk (hbox); have n3_ := Aside0.mk ((by rw [hg]; exact (below_size (by repeat (first | (with_reducible first | exact HB.out | apply below_alloc | apply pw_below_drewN | apply below_drew1) | exact HB.out))) : w.heap.size ≤ gb414)); have n4_ := Aside0.mk ((by rw [hg]; exact (below_size (by repeat (first | (with_reducible first | exact HB.out | apply below_alloc | apply pw_below_drewN | apply below_drew1) | exact HB.out))) : w.heap.size ≤ gb414)); clear HO_89; clear HB; have HO_89 := n0_; have HB := n1_; have BK414 := n2_; have GW414 := n3_; have GE414 := n4_; clear n0_ n1_ n2_ n3_ n4_; clear hb hbox hg; have hcz57_0 : w56.cell? ⟨gb414, 0, none⟩ = some (.int .i64 0) := (blk_cell BK414.out 0).trans rfl; have hcz57_1 : w56.cell? ⟨gb414, 1, none⟩ = some (.int .i64 0) := (blk_cell BK414.out 1).trans rfl; have hcz57_2 : w56.cell? ⟨gb414, 2, none⟩ = some (.string (⟨#[]⟩ : ByteArray)) := (blk_cell BK414.out 2).trans rfl; have hfz57_0 := blk_frozen BK414.out 0; have hfz57_1 := blk_frozen BK414.out 1; have hfz57_2 := blk_frozen BK414.out 2; have p41 : 0 ≤ (0 : Int) := (by omega); have q41 : 0 < ((((rd_T42 t399 x91_3).f1) : Int).toNat - (((rd_T42 t399 x91_3).f0) : Int).toNat : Nat) := (by have : (0 : Int) < (((((rd_T42 t399 x91_3).f1) : Int).toNat - (((rd_T42 t399 x91_3).f0) : Int).toNat : Nat) : Int) := of_decide_eq_true (by first | (with_reducible assumption) | assumption); omega); have hx41 : ∀ h, (((a0.extract (((rd_T42 t399 x91_3).f0) : Int).toNat (((rd_T42 t399 x91_3).f1) : Int).toNat)[0]'h).toNat : Int) = bt (a0.extract (((rd_T42 t399 x91_3).f0) : Int).toNat (((rd_T42 t399 x91_3).f1) : Int).toNat) 0 := bt_at (a0.extract (((rd_T42 t399 x91_3).f0) : Int).toNat (((rd_T42 t399 x91_3).f1) : Int).toNat) 0; clear p41; have qi41 : (0 < (((((rd_T42 t399 x91_3).f1) : Int).toNat - (((rd_T42 t399 x91_3).f0) : Int).toNat : Nat) : Int)) = True := eq_true (of_decide_eq_true (by first | (with_reducible assumption) | assumption)); replace q41 := eq_true q41; have p43 : 0 ≤ (0 : Int) := (by omega); have q43 : 0 < ((rd_T42 t399 x91_3).f2).size := (by have : (0 : Int) < (((rd_T42 t399 x91_3).f2).size : Int) := of_decide_eq_true (by first | (with_reducible assumption) | assumption); omega); have hx43 : ∀ h, ((((rd_T42 t399 x91_3).f2)[0]'h).toNat : Int) = bt ((rd_T42 t399 x91_3).f2) 0 := bt_at ((rd_T42 t399 x91_3).f2) 0; clear p43; have qi43 : (0 < (((rd_T42 t399 x91_3).f2).size : Int)) = True := eq_true (of_decide_eq_true (by first | (with_reducible assumption) | assumption)); replace q43 := eq_true q43; have p50 : 0 ≤ ((ji47) : Int) := of_decide_eq_true (by first | (with_reducible assumption) | assumption); have q50 : (ji47) < (((((rd_T42 t399 x91_3).f1) : Int).toNat - (((rd_T42 t399 x91_3).f0) : Int).toNat : Nat) : Int) := of_decide_eq_true (by first | (with_reducible assumption) | assumption); have hx50 := bt_at (a0.extract (((rd_T42 t399 x91_3).f0) : Int).toNat (((rd_T42 t399 x91_3).f1) : Int).toNat) (ji47); replace p50 := eq_true p50; replace q50 := eq_true q50; have p54 : 0 ≤ ((ji51) : Int) := of_decide_eq_true (by first | (with_reducible assumption) | assumption); have q54 : (ji51) < (((rd_T42 t399 x91_3).f2).size : Int) := of_decide_eq_true (by first | (with_reducible assumption) | assumption); have hx54 := bt_at ((rd_T42 t399 x91_3).f2) (ji51); replace p54 := eq_true p54; replace q54 := eq_true q54)))
                                                      go_ret
                                                      exact ⟨by first | rfl | (simp [errW_none, errW_some] <;> rfl) | (simp only [← hji47, ← hji51]; first | rfl | (simp [errW_none, errW_some] <;> rfl)) | (simp [*, errW_none, errW_some] <;> rfl), by repeat (first | (with_reducible first | exact HB.out | apply below_alloc | apply pw_below_drewN | apply below_drew1 | refine below_set ?_ GE414.out) | exact HB.out)⟩
                                                    · rw [if_neg c55] at H
                                                      have c55b0 : ((bt (a0.extract (((rd_T42 t399 x91_3).f0) : Int).toNat (((rd_T42 t399 x91_3).f1) : Int).toNat) (ji47)) == (bt ((rd_T42 t399 x91_3).f2) (ji51))) = false := beq_eq_false_iff_ne.mpr c55
                                                      have c55b1 : ((bt (a0.extract (((rd_T42 t399 x91_3).f0) : Int).toNat (((rd_T42 t399 x91_3).f1) : Int).toNat) (ji47)) != (bt ((rd_T42 t399 x91_3).f2) (ji51))) = true := bne_iff_ne.mpr c55
                                                      have H' := Aside0.mk H
                                                      clear H
                                                      have p413 : 0 ≤ (x91_3 : Int) := of_decide_eq_true (by first | (with_reducible assumption) | assumption)
                                                      have q413 : x91_3 < (t399.length : Int) := of_decide_eq_true (by first | (with_reducible assumption) | assumption)
                                                      obtain ⟨ad413, e413, hx413_0, hx413_1, hx413_2⟩ := at_T42 (Kd.R_reads' HO_89.out).2.2 x91_3 p413 q413
                                                      cases e413
                                                      replace p413 := eq_true p413
                                                      replace q413 := eq_true q413
                                                      go_wp2_with (first | ((with_reducible refine gate_dst (N := 14) rfl ?_); (try (refine gate_guard (by rfl) ?_; dsimp only)); refine box_event ?hg (N := 14) ?hd (cs := #[.int .i64 0, .int .i64 0, .string (⟨#[]⟩ : ByteArray)]) (t := 42) ?hr ?_; (case hd => rfl); (case hg => rfl); (case hr => first | (go_simp; done) | (go_simp; rfl)); intro gb414 hg w58 hbox hb; have n0_ := Aside0.mk (Kd.R_below (Kd.R_elderB (by (with_reducible repeat (first | apply Kd.R_alloc | apply Kd.R_drewN | apply Kd.R_drew)); exact HO_89.out) gb414 (Nat.le_of_eq hg.symm)) hb); have n1_ := Aside0.mk (below_step (by repeat (first | (with_reducible first | exact HB.out | apply below_alloc | apply pw_below_drewN | apply below_drew1) | exact HB.out)) hb); have n2_ := Aside0.mk (hbox); have n3_ := Aside0.mk ((by rw [hg]; exact (below_size (by repeat (first | (with_reducible first | exact HB.out | apply below_alloc | apply pw_below_drewN | apply below_drew1) | exact HB.out))) : w.heap.size ≤ gb414)); have n4_ := Aside0.mk ((by rw [hg]; exact (below_size (by repeat (first | (with_reducible first | exact HB.out | apply below_alloc | apply pw_below_drewN | apply below_drew1) | exact HB.out))) : w.heap.size ≤ gb414)); clear HO_89; clear HB; have HO_89 := n0_; have HB := n1_; have BK414 := n2_; have GW414 := n3_; have GE414 := n4_; clear n0_ n1_ n2_ n3_ n4_; clear hb hbox hg; have hcz59_0 : w58.cell? ⟨gb414, 0, none⟩ = some (.int .i64 0) := (blk_cell BK414.out 0).trans rfl; have hcz59_1 : w58.cell? ⟨gb414, 1, none⟩ = some (.int .i64 0) := (blk_cell BK414.out 1).trans rfl; have hcz59_2 : w58.cell? ⟨gb414, 2, none⟩ = some (.string (⟨#[]⟩ : ByteArray)) := (blk_cell BK414.out 2).trans rfl; have hfz59_0 := blk_frozen BK414.out 0; have hfz59_1 := blk_frozen BK414.out 1; have hfz59_2 := blk_frozen BK414.out 2; have p41 : 0 ≤ (0 : Int) := (by omega); have q41 : 0 < ((((rd_T42 t399 x91_3).f1) : Int).toNat - (((rd_T42 t399 x91_3).f0) : Int).toNat : Nat) := (by have : (0 : Int) < (((((rd_T42 t399 x91_3).f1) : Int).toNat - (((rd_T42 t399 x91_3).f0) : Int).toNat : Nat) : Int) := of_decide_eq_true (by first | (with_reducible assumption) | assumption); omega); have hx41 : ∀ h, (((a0.extract (((rd_T42 t399 x91_3).f0) : Int).toNat (((rd_T42 t399 x91_3).f1) : Int).toNat)[0]'h).toNat : Int) = bt (a0.extract (((rd_T42 t399 x91_3).f0) : Int).toNat (((rd_T42 t399 x91_3).f1) : Int).toNat) 0 := bt_at (a0.extract (((rd_T42 t399 x91_3).f0) : Int).toNat (((rd_T42 t399 x91_3).f1) : Int).toNat) 0; clear p41; have qi41 : (0 < (((((rd_T42 t399 x91_3).f1) : Int).toNat - (((rd_T42 t399 x91_3).f0) : Int).toNat : Nat) : Int)) = True := eq_true (of_decide_eq_true (by first | (with_reducible assumption) | assumption)); replace q41 := eq_true q41; have p43 : 0 ≤ (0 : Int) := (by omega); have q43 : 0 < ((rd_T42 t399 x91_3).f2).size := (by have : (0 : Int) < (((rd_T42 t399 x91_3).f2).size : Int) := of_decide_eq_true (by first | (with_reducible assumption) | assumption); omega); have hx43 : ∀ h, ((((rd_T42 t399 x91_3).f2)[0]'h).toNat : Int) = bt ((rd_T42 t399 x91_3).f2) 0 := bt_at ((rd_T42 t399 x91_3).f2) 0; clear p43; have qi43 : (0 < (((rd_T42 t399 x91_3).f2).size : Int)) = True := eq_true (of_decide_eq_true (by first | (with_reducible assumption) | assumption)); replace q43 := eq_true q43; have p50 : 0 ≤ ((ji47) : Int) := of_decide_eq_true (by first | (with_reducible assumption) | assumption); have q50 : (ji47) < (((((rd_T42 t399 x91_3).f1) : Int).toNat - (((rd_T42 t399 x91_3).f0) : Int).toNat : Nat) : Int) := of_decide_eq_true (by first | (with_reducible assumption) | assumption); have hx50 := bt_at (a0.extract (((rd_T42 t399 x91_3).f0) : Int).toNat (((rd_T42 t399 x91_3).f1) : Int).toNat) (ji47); replace p50 := eq_true p50; replace q50 := eq_true q50; have p54 : 0 ≤ ((ji51) : Int) := of_decide_eq_true (by first | (with_reducible assumption) | assumption); have q54 : (ji51) < (((rd_T42 t399 x91_3).f2).size : Int) := of_decide_eq_true (by first | (with_reducible assumption) | assumption); have hx54 := bt_at ((rd_T42 t399 x91_3).f2) (ji51); replace p54 := eq_true p54; replace q54 := eq_true q54))
                                                      repeat (go_quiet (first | ((with_reducible refine gate_dst (N := 14) rfl ?_); (try (refine gate_guard (by rfl) ?_; dsimp only)); refine box_event ?hg (N := 14) ?hd (cs := #[.int .i64 0, .int .i64 0, .string (⟨#[]⟩ : ByteArray)]) (t := 42) ?hr ?_; (case hd => rfl); (case hg => rfl); (case hr => first | (go_simp; done) | (go_simp; rfl)); intro gb414 hg w58 hbox hb; have n0_ := Aside0.mk (Kd.R_below (Kd.R_elderB (by (with_reducible repeat (first | apply Kd.R_alloc | apply Kd.R_drewN | apply Kd.R_drew)); exact HO_89.out) gb414 (Nat.le_of_eq hg.symm)) hb); have n1_ := Aside0.mk (below_step (by repeat (first | (with_reducible first | exact HB.out | apply below_alloc | apply pw_below_drewN | apply below_drew1) | exact HB.out)) hb); have n2_ := Aside0.mk (hbox); have n3_ := Aside0.mk ((by rw [hg]; exact (below_size (by repeat (first | (with_reducible first | exact HB.out | apply below_alloc | apply pw_below_drewN | apply below_drew1) | exact HB.out))) : w.heap.size ≤ gb414)); have n4_ := Aside0.mk ((by rw [hg]; exact (below_size (by repeat (first | (with_reducible first | exact HB.out | apply below_alloc | apply pw_below_drewN | apply below_drew1) | exact HB.out))) : w.heap.size ≤ gb414)); clear HO_89; clear HB; have HO_89 := n0_; have HB := n1_; have BK414 := n2_; have GW414 := n3_; have GE414 := n4_; clear n0_ n1_ n2_ n3_ n4_; clear hb hbox hg; have hcz59_0 : w58.cell? ⟨gb414, 0, none⟩ = some (.int .i64 0) := (blk_cell BK414.out 0).trans rfl; have hcz59_1 : w58.cell? ⟨gb414, 1, none⟩ = some (.int .i64 0) := (blk_cell BK414.out 1).trans rfl; have hcz59_2 : w58.cell? ⟨gb414, 2, none⟩ = some (.string (⟨#[]⟩ : ByteArray)) := (blk_cell BK414.out 2).trans rfl; have hfz59_0 := blk_frozen BK414.out 0; have hfz59_1 := blk_frozen BK414.out 1; have hfz59_2 := blk_frozen BK414.out 2; have p41 : 0 ≤ (0 : Int) := (by omega); have q41 : 0 < ((((rd_T42 t399 x91_3).f1) : Int).toNat - (((rd_T42 t399 x91_3).f0) : Int).toNat : Nat) := (by have : (0 : Int) < (((((rd_T42 t399 x91_3).f1) : Int).toNat - (((rd_T42 t399 x91_3).f0) : Int).toNat : Nat) : Int) := of_decide_eq_true (by first | (with_reducible assumption) | assumption); omega); have hx41 : ∀ h, (((a0.extract (((rd_T42 t399 x91_3).f0) : Int).toNat (((rd_T42 t399 x91_3).f1) : Int).toNat)[0]'h).toNat : Int) = bt (a0.extract (((rd_T42 t399 x91_3).f0) : Int).toNat (((rd_T42 t399 x91_3).f1) : Int).toNat) 0 := bt_at (a0.extract (((rd_T42 t399 x91_3).f0) : Int).toNat (((rd_T42 t399 x91_3).f1) : Int).toNat) 0; clear p41; have qi41 : (0 < (((((rd_T42 t399 x91_3).f1) : Int).toNat - (((rd_T42 t399 x91_3).f0) : Int).toNat : Nat) : Int)) = True := eq_true (of_decide_eq_true (by first | (with_reducible assumption) | assumption)); replace q41 := eq_true q41; have p43 : 0 ≤ (0 : Int) := (by omega); have q43 : 0 < ((rd_T42 t399 x91_3).f2).size := (by have : (0 : Int) < (((rd_T42 t399 x91_3).f2).size : Int) := of_decide_eq_true (by first | (with_reducible assumption) | assumption); omega); have hx43 : ∀ h, ((((rd_T42 t399 x91_3).f2)[0]'h).toNat : Int) = bt ((rd_T42 t399 x91_3).f2) 0 := bt_at ((rd_T42 t399 x91_3).f2) 0; clear p43; have qi43 : (0 < (((rd_T42 t399 x91_3).f2).size : Int)) = True := eq_true (of_decide_eq_true (by first | (with_reducible assumption) | assumption)); replace q43 := eq_true q43; have p50 : 0 ≤ ((ji47) : Int) := of_decide_eq_true (by first | (with_reducible assumption) | assumption); have q50 : (ji47) < (((((rd_T42 t399 x91_3).f1) : Int).toNat - (((rd_T42 t399 x91_3).f0) : Int).toNat : Nat) : Int) := of_decide_eq_true (by first | (with_reducible assumption) | assumption); have hx50 := bt_at (a0.extract (((rd_T42 t399 x91_3).f0) : Int).toNat (((rd_T42 t399 x91_3).f1) : Int).toNat) (ji47); replace p50 := eq_true p50; replace q50 := eq_true q50; have p54 : 0 ≤ ((ji51) : Int) := of_decide_eq_true (by first | (with_reducible assumption) | assumption); have q54 : (ji51) < (((rd_T42 t399 x91_3).f2).size : Int) := of_decide_eq_true (by first | (with_reducible assumption) | assumption); have hx54 := bt_at ((rd_T42 t399 x91_3).f2) (ji51); replace p54 := eq_true p54; replace q54 := eq_true q54)); try go_wp2_with (first | ((with_reducible refine gate_dst (N := 14) rfl ?_); (try (refine gate_guard (by rfl) ?_; dsimp only)); refine box_event ?hg (N := 14) ?hd (cs := #[.int .i64 0, .int .i64 0, .string (⟨#[]⟩ : ByteArray)]) (t := 42) ?hr ?_; (case hd => rfl); (case hg => rfl); (case hr => first | (go_simp; done) | (go_simp; rfl)); intro gb414 hg w58 hbox hb; have n0_ := Aside0.mk (Kd.R_below (Kd.R_elderB (by (with_reducible repeat (first | apply Kd.R_alloc | apply Kd.R_drewN | apply Kd.R_drew)); exact HO_89.out) gb414 (Nat.le_of_eq hg.symm)) hb); have n1_ := Aside0.mk (below_step (by repeat (first | (with_reducible first | exact HB.out | apply below_alloc | apply pw_below_drewN | apply below_drew1) | exact HB.out)) hb); have n2_ := Aside0.mk (hbox); have n3_ := Aside0.mk ((by rw [hg]; exact (below_size (by repeat (first | (with_reducible first | exact HB.out | apply below_alloc | apply pw_below_drewN | apply below_drew1) | exact HB.out))) : w.heap.size ≤ gb414)); have n4_ := Aside0.mk ((by rw [hg]; exact (below_size (by repeat (first | (with_reducible first | exact HB.out | apply below_alloc | apply pw_below_drewN | apply below_drew1) | exact HB.out))) : w.heap.size ≤ gb414)); clear HO_89; clear HB; have HO_89 := n0_; have HB := n1_; have BK414 := n2_; have GW414 := n3_; have GE414 := n4_; clear n0_ n1_ n2_ n3_ n4_; clear hb hbox hg; have hcz59_0 : w58.cell? ⟨gb414, 0, none⟩ = some (.int .i64 0) := (blk_cell BK414.out 0).trans rfl; have hcz59_1 : w58.cell? ⟨gb414, 1, none⟩ = some (.int .i64 0) := (blk_cell BK414.out 1).trans rfl; have hcz59_2 : w58.cell? ⟨gb414, 2, none⟩ = some (.string (⟨#[]⟩ : ByteArray)) := (blk_cell BK414.out 2).trans rfl; have hfz59_0 := blk_frozen BK414.out 0; have hfz59_1 := blk_frozen BK414.out 1; have hfz59_2 := blk_frozen BK414.out 2; have p41 : 0 ≤ (0 : Int) := (by omega); have q41 : 0 < ((((rd_T42 t399 x91_3).f1) : Int).toNat - (((rd_T42 t399 x91_3).f0) : Int).toNat : Nat) := (by have : (0 : Int) < (((((rd_T42 t399 x91_3).f1) : Int).toNat - (((rd_T42 t399 x91_3).f0) : Int).toNat : Nat) : Int) := of_decide_eq_true (by first | (with_reducible assumption) | assumption); omega); have hx41 : ∀ h, (((a0.extract (((rd_T42 t399 x91_3).f0) : Int).toNat (((rd_T42 t399 x91_3).f1) : Int).toNat)[0]'h).toNat : Int) = bt (a0.extract (((rd_T42 t399 x91_3).f0) : Int).toNat (((rd_T42 t399 x91_3).f1) : Int).toNat) 0 := bt_at (a0.extract (((rd_T42 t399 x91_3).f0) : Int).toNat (((rd_T42 t399 x91_3).f1) : Int).toNat) 0; clear p41; have qi41 : (0 < (((((rd_T42 t399 x91_3).f1) : Int).toNat - (((rd_T42 t399 x91_3).f0) : Int).toNat : Nat) : Int)) = True := eq_true (of_decide_eq_true (by first | (with_reducible assumption) | assumption)); replace q41 := eq_true q41; have p43 : 0 ≤ (0 : Int) := (by omega); have q43 : 0 < ((rd_T42 t399 x91_3).f2).size := (by have : (0 : Int) < (((rd_T42 t399 x91_3).f2).size : Int) := of_decide_eq_true (by first | (with_reducible assumption) | assumption); omega); have hx43 : ∀ h, ((((rd_T42 t399 x91_3).f2)[0]'h).toNat : Int) = bt ((rd_T42 t399 x91_3).f2) 0 := bt_at ((rd_T42 t399 x91_3).f2) 0; clear p43; have qi43 : (0 < (((rd_T42 t399 x91_3).f2).size : Int)) = True := eq_true (of_decide_eq_true (by first | (with_reducible assumption) | assumption)); replace q43 := eq_true q43; have p50 : 0 ≤ ((ji47) : Int) := of_decide_eq_true (by first | (with_reducible assumption) | assumption); have q50 : (ji47) < (((((rd_T42 t399 x91_3).f1) : Int).toNat - (((rd_T42 t399 x91_3).f0) : Int).toNat : Nat) : Int) := of_decide_eq_true (by first | (with_reducible assumption) | assumption); have hx50 := bt_at (a0.extract (((rd_T42 t399 x91_3).f0) : Int).toNat (((rd_T42 t399 x91_3).f1) : Int).toNat) (ji47); replace p50 := eq_true p50; replace q50 := eq_true q50; have p54 : 0 ≤ ((ji51) : Int) := of_decide_eq_true (by first | (with_reducible assumption) | assumption); have q54 : (ji51) < (((rd_T42 t399 x91_3).f2).size : Int) := of_decide_eq_true (by first | (with_reducible assumption) | assumption); have hx54 := bt_at ((rd_T42 t399 x91_3).f2) (ji51); replace p54 := eq_true p54; replace q54 := eq_true q54)))
                                                      go_roundg k3
                                                      case measure => have := HJ7.out; have := HJ21.out; have := HK3.out; omega
                                                      case rel => exact ⟨(wrap64 (x91_3 + 1)), (by first | rfl | (simp; done) | (simp [*]; done)), H', ⟨by have := HJ7.out; have := HJ21.out; have := HK3.out; omega⟩, ⟨by (with_reducible repeat (first | apply Kd.R_alloc | apply Kd.R_drewN | apply Kd.R_drew)); exact Kd.R_mono (Kd.R_far (p := ⟨gb414, 2, none⟩) (Kd.R_far (p := ⟨gb414, 1, none⟩) (Kd.R_far (p := ⟨gb414, 0, none⟩) (Kd.R_mono HO_89.out (fun k_ hk => (⟨hk, hk.2⟩ : _ ∧ k_ ≠ gb414))) (fun _ hk => hk.2) (.int .i64 ((rd_T42 t399 x91_3).f0))) (fun _ hk => hk.2) (.int .i64 ((rd_T42 t399 x91_3).f1))) (fun _ hk => hk.2) (.string ((rd_T42 t399 x91_3).f2))) (fun _ hk => trivial)⟩, ⟨by repeat (first | (with_reducible first | exact HB.out | apply below_alloc | apply pw_below_drewN | apply below_drew1 | refine below_set ?_ GE414.out) | exact HB.out)⟩⟩
                                                  · rw [if_neg c53] at H
                                                    exact absurd H (by simp)
                                                · rw [if_neg c52] at H
                                                  exact absurd H (by simp)
                                              · rw [if_neg c49] at H
                                                exact absurd H (by simp)
                                            · rw [if_neg c48] at H
                                              exact absurd H (by simp)
                                        · rw [if_neg c42] at H
                                          exact absurd H (by simp)
                                      · rw [if_neg c40] at H
                                        exact absurd H (by simp)
                              · rw [if_neg c30] at H
                                exact absurd H (by simp)
                            · rw [if_neg c29] at H
                              exact absurd H (by simp)
                          · rw [if_neg c28] at H
                            exact absurd H (by simp)
                        · rw [if_neg c27] at H
                          exact absurd H (by simp)
                      · rw [if_neg c26] at H
                        exact absurd H (by simp)
                    · rw [if_neg c25] at H
                      have c25b0 : decide (x91_3 < (t399.length : Int)) = false := decide_eq_false c25
                      clear c25
                      obtain rfl := Option.some.inj H
                      go_wp2
                      repeat (go_quiet (fail); try go_wp2)
                      go_ret
                      exact ⟨by first | rfl | (simp [errW_none, errW_some] <;> rfl) | (simp [*, errW_none, errW_some] <;> rfl), by repeat (first | (with_reducible first | exact HB.out | apply below_alloc | apply pw_below_drewN | apply below_drew1) | exact HB.out)⟩
  · rw [if_neg c4] at H
    have c4b0 : (t400 == 0) = false := beq_eq_false_iff_ne.mpr c4
    have c4b1 : (t400 != 0) = true := bne_iff_ne.mpr c4
    replace H := Option.bind_eq_some_iff.mp H
    obtain ⟨t403, A600, H⟩ := H
    replace H : (if t400 = t403 then (some ((t399.length : Int) == 0)) else (some false)) = some r := H
    have A60 := Aside0.mk A600
    clear A600
    by_cases c61 : t400 = t403
    · rw [if_pos c61] at H
      have c61b0 : (t400 == t403) = true := beq_iff_eq.mpr c61
      have c61b1 : (t400 != t403) = false := bne_eq_false_iff_eq.mpr c61
      clear c61
      obtain rfl := Option.some.inj H
      go_enter Try.func10, Try.ntmps10
      go_wp2_with (first | (go_at_call 26; (with_reducible refine (edits_Normal.calls k a0 _ _ l1 t399 t400 _ ?side1 ?side2 A3.out).mono ?_); (case side1 => repeat (first | exact HR1.out | (with_reducible refine Kd.C_alloc ?_ _) | (with_reducible refine Kd.C_drewN ?_ _) | (with_reducible refine Kd.C_drew ?_))); (case side2 => exact HC1.out); rintro e w62 ⟨v401, rfl, ho0, hb⟩; have n0_ := Aside0.mk (Kd.R_lower ho0 (below_size (by repeat (first | (with_reducible first | exact HB.out | apply below_alloc | apply pw_below_drewN | apply below_drew1) | exact HB.out)))); have n1_ := Aside0.mk (below_step (by repeat (first | (with_reducible first | exact HB.out | apply below_alloc | apply pw_below_drewN | apply below_drew1) | exact HB.out)) hb); clear HB; have HO402 := n0_; have HB := n1_; clear n0_ n1_; (try clear hb); (try clear hb2); (try clear hk); (try clear hi); (try clear ho0)) | (go_at_call 16; (with_reducible refine (edits_Valid.calls k (a0.size : Int) _ _ l1 t403 _ ?side1 ?side2 A60.out).mono ?_); (case side1 => repeat (first | exact (Kd.C_below HR1.out HB.out) | (with_reducible refine Kd.C_alloc ?_ _) | (with_reducible refine Kd.C_drewN ?_ _) | (with_reducible refine Kd.C_drew ?_))); (case side2 => exact HC1.out); rintro e w63 ⟨rfl, hb⟩; have n0_ := Aside0.mk (Kd.R_below (by (with_reducible repeat (first | apply Kd.R_alloc | apply Kd.R_drewN | apply Kd.R_drew)); exact HO402.out) hb); have n1_ := Aside0.mk (below_step (by repeat (first | (with_reducible first | exact HB.out | apply below_alloc | apply pw_below_drewN | apply below_drew1) | exact HB.out)) hb); clear HO402; clear HB; have HO402 := n0_; have HB := n1_; clear n0_ n1_; (try clear hb); (try clear hb2); (try clear hk); (try clear hi); obtain ⟨Ao64, co64, eo64⟩ := Kd.R_slice HO402.out; subst eo64))
      repeat (go_quiet (first | (go_at_call 26; (with_reducible refine (edits_Normal.calls k a0 _ _ l1 t399 t400 _ ?side1 ?side2 A3.out).mono ?_); (case side1 => repeat (first | exact HR1.out | (with_reducible refine Kd.C_alloc ?_ _) | (with_reducible refine Kd.C_drewN ?_ _) | (with_reducible refine Kd.C_drew ?_))); (case side2 => exact HC1.out); rintro e w62 ⟨v401, rfl, ho0, hb⟩; have n0_ := Aside0.mk (Kd.R_lower ho0 (below_size (by repeat (first | (with_reducible first | exact HB.out | apply below_alloc | apply pw_below_drewN | apply below_drew1) | exact HB.out)))); have n1_ := Aside0.mk (below_step (by repeat (first | (with_reducible first | exact HB.out | apply below_alloc | apply pw_below_drewN | apply below_drew1) | exact HB.out)) hb); clear HB; have HO402 := n0_; have HB := n1_; clear n0_ n1_; (try clear hb); (try clear hb2); (try clear hk); (try clear hi); (try clear ho0)) | (go_at_call 16; (with_reducible refine (edits_Valid.calls k (a0.size : Int) _ _ l1 t403 _ ?side1 ?side2 A60.out).mono ?_); (case side1 => repeat (first | exact (Kd.C_below HR1.out HB.out) | (with_reducible refine Kd.C_alloc ?_ _) | (with_reducible refine Kd.C_drewN ?_ _) | (with_reducible refine Kd.C_drew ?_))); (case side2 => exact HC1.out); rintro e w63 ⟨rfl, hb⟩; have n0_ := Aside0.mk (Kd.R_below (by (with_reducible repeat (first | apply Kd.R_alloc | apply Kd.R_drewN | apply Kd.R_drew)); exact HO402.out) hb); have n1_ := Aside0.mk (below_step (by repeat (first | (with_reducible first | exact HB.out | apply below_alloc | apply pw_below_drewN | apply below_drew1) | exact HB.out)) hb); clear HO402; clear HB; have HO402 := n0_; have HB := n1_; clear n0_ n1_; (try clear hb); (try clear hb2); (try clear hk); (try clear hi); obtain ⟨Ao64, co64, eo64⟩ := Kd.R_slice HO402.out; subst eo64)); try go_wp2_with (first | (go_at_call 26; (with_reducible refine (edits_Normal.calls k a0 _ _ l1 t399 t400 _ ?side1 ?side2 A3.out).mono ?_); (case side1 => repeat (first | exact HR1.out | (with_reducible refine Kd.C_alloc ?_ _) | (with_reducible refine Kd.C_drewN ?_ _) | (with_reducible refine Kd.C_drew ?_))); (case side2 => exact HC1.out); rintro e w62 ⟨v401, rfl, ho0, hb⟩; have n0_ := Aside0.mk (Kd.R_lower ho0 (below_size (by repeat (first | (with_reducible first | exact HB.out | apply below_alloc | apply pw_below_drewN | apply below_drew1) | exact HB.out)))); have n1_ := Aside0.mk (below_step (by repeat (first | (with_reducible first | exact HB.out | apply below_alloc | apply pw_below_drewN | apply below_drew1) | exact HB.out)) hb); clear HB; have HO402 := n0_; have HB := n1_; clear n0_ n1_; (try clear hb); (try clear hb2); (try clear hk); (try clear hi); (try clear ho0)) | (go_at_call 16; (with_reducible refine (edits_Valid.calls k (a0.size : Int) _ _ l1 t403 _ ?side1 ?side2 A60.out).mono ?_); (case side1 => repeat (first | exact (Kd.C_below HR1.out HB.out) | (with_reducible refine Kd.C_alloc ?_ _) | (with_reducible refine Kd.C_drewN ?_ _) | (with_reducible refine Kd.C_drew ?_))); (case side2 => exact HC1.out); rintro e w63 ⟨rfl, hb⟩; have n0_ := Aside0.mk (Kd.R_below (by (with_reducible repeat (first | apply Kd.R_alloc | apply Kd.R_drewN | apply Kd.R_drew)); exact HO402.out) hb); have n1_ := Aside0.mk (below_step (by repeat (first | (with_reducible first | exact HB.out | apply below_alloc | apply pw_below_drewN | apply below_drew1) | exact HB.out)) hb); clear HO402; clear HB; have HO402 := n0_; have HB := n1_; clear n0_ n1_; (try clear hb); (try clear hb2); (try clear hk); (try clear hi); obtain ⟨Ao64, co64, eo64⟩ := Kd.R_slice HO402.out; subst eo64)))
      go_ret
      exact ⟨by first | rfl | (simp [errW_none, errW_some] <;> rfl) | (simp [*, errW_none, errW_some] <;> rfl), by repeat (first | (with_reducible first | exact HB.out | apply below_alloc | apply pw_below_drewN | apply below_drew1) | exact HB.out)⟩
    · rw [if_neg c61] at H
      have c61b0 : (t400 == t403) = false := beq_eq_false_iff_ne.mpr c61
      have c61b1 : (t400 != t403) = true := bne_iff_ne.mpr c61
      obtain rfl := Option.some.inj H
      go_enter Try.func10, Try.ntmps10
      go_wp2_with (first | (go_at_call 26; (with_reducible refine (edits_Normal.calls k a0 _ _ l1 t399 t400 _ ?side1 ?side2 A3.out).mono ?_); (case side1 => repeat (first | exact HR1.out | (with_reducible refine Kd.C_alloc ?_ _) | (with_reducible refine Kd.C_drewN ?_ _) | (with_reducible refine Kd.C_drew ?_))); (case side2 => exact HC1.out); rintro e w65 ⟨v401, rfl, ho0, hb⟩; have n0_ := Aside0.mk (Kd.R_lower ho0 (below_size (by repeat (first | (with_reducible first | exact HB.out | apply below_alloc | apply pw_below_drewN | apply below_drew1) | exact HB.out)))); have n1_ := Aside0.mk (below_step (by repeat (first | (with_reducible first | exact HB.out | apply below_alloc | apply pw_below_drewN | apply below_drew1) | exact HB.out)) hb); clear HB; have HO402 := n0_; have HB := n1_; clear n0_ n1_; (try clear hb); (try clear hb2); (try clear hk); (try clear hi); (try clear ho0)) | (go_at_call 16; (with_reducible refine (edits_Valid.calls k (a0.size : Int) _ _ l1 t403 _ ?side1 ?side2 A60.out).mono ?_); (case side1 => repeat (first | exact (Kd.C_below HR1.out HB.out) | (with_reducible refine Kd.C_alloc ?_ _) | (with_reducible refine Kd.C_drewN ?_ _) | (with_reducible refine Kd.C_drew ?_))); (case side2 => exact HC1.out); rintro e w66 ⟨rfl, hb⟩; have n0_ := Aside0.mk (Kd.R_below (by (with_reducible repeat (first | apply Kd.R_alloc | apply Kd.R_drewN | apply Kd.R_drew)); exact HO402.out) hb); have n1_ := Aside0.mk (below_step (by repeat (first | (with_reducible first | exact HB.out | apply below_alloc | apply pw_below_drewN | apply below_drew1) | exact HB.out)) hb); clear HO402; clear HB; have HO402 := n0_; have HB := n1_; clear n0_ n1_; (try clear hb); (try clear hb2); (try clear hk); (try clear hi)))
      repeat (go_quiet (first | (go_at_call 26; (with_reducible refine (edits_Normal.calls k a0 _ _ l1 t399 t400 _ ?side1 ?side2 A3.out).mono ?_); (case side1 => repeat (first | exact HR1.out | (with_reducible refine Kd.C_alloc ?_ _) | (with_reducible refine Kd.C_drewN ?_ _) | (with_reducible refine Kd.C_drew ?_))); (case side2 => exact HC1.out); rintro e w65 ⟨v401, rfl, ho0, hb⟩; have n0_ := Aside0.mk (Kd.R_lower ho0 (below_size (by repeat (first | (with_reducible first | exact HB.out | apply below_alloc | apply pw_below_drewN | apply below_drew1) | exact HB.out)))); have n1_ := Aside0.mk (below_step (by repeat (first | (with_reducible first | exact HB.out | apply below_alloc | apply pw_below_drewN | apply below_drew1) | exact HB.out)) hb); clear HB; have HO402 := n0_; have HB := n1_; clear n0_ n1_; (try clear hb); (try clear hb2); (try clear hk); (try clear hi); (try clear ho0)) | (go_at_call 16; (with_reducible refine (edits_Valid.calls k (a0.size : Int) _ _ l1 t403 _ ?side1 ?side2 A60.out).mono ?_); (case side1 => repeat (first | exact (Kd.C_below HR1.out HB.out) | (with_reducible refine Kd.C_alloc ?_ _) | (with_reducible refine Kd.C_drewN ?_ _) | (with_reducible refine Kd.C_drew ?_))); (case side2 => exact HC1.out); rintro e w66 ⟨rfl, hb⟩; have n0_ := Aside0.mk (Kd.R_below (by (with_reducible repeat (first | apply Kd.R_alloc | apply Kd.R_drewN | apply Kd.R_drew)); exact HO402.out) hb); have n1_ := Aside0.mk (below_step (by repeat (first | (with_reducible first | exact HB.out | apply below_alloc | apply pw_below_drewN | apply below_drew1) | exact HB.out)) hb); clear HO402; clear HB; have HO402 := n0_; have HB := n1_; clear n0_ n1_; (try clear hb); (try clear hb2); (try clear hk); (try clear hi))); try go_wp2_with (first | (go_at_call 26; (with_reducible refine (edits_Normal.calls k a0 _ _ l1 t399 t400 _ ?side1 ?side2 A3.out).mono ?_); (case side1 => repeat (first | exact HR1.out | (with_reducible refine Kd.C_alloc ?_ _) | (with_reducible refine Kd.C_drewN ?_ _) | (with_reducible refine Kd.C_drew ?_))); (case side2 => exact HC1.out); rintro e w65 ⟨v401, rfl, ho0, hb⟩; have n0_ := Aside0.mk (Kd.R_lower ho0 (below_size (by repeat (first | (with_reducible first | exact HB.out | apply below_alloc | apply pw_below_drewN | apply below_drew1) | exact HB.out)))); have n1_ := Aside0.mk (below_step (by repeat (first | (with_reducible first | exact HB.out | apply below_alloc | apply pw_below_drewN | apply below_drew1) | exact HB.out)) hb); clear HB; have HO402 := n0_; have HB := n1_; clear n0_ n1_; (try clear hb); (try clear hb2); (try clear hk); (try clear hi); (try clear ho0)) | (go_at_call 16; (with_reducible refine (edits_Valid.calls k (a0.size : Int) _ _ l1 t403 _ ?side1 ?side2 A60.out).mono ?_); (case side1 => repeat (first | exact (Kd.C_below HR1.out HB.out) | (with_reducible refine Kd.C_alloc ?_ _) | (with_reducible refine Kd.C_drewN ?_ _) | (with_reducible refine Kd.C_drew ?_))); (case side2 => exact HC1.out); rintro e w66 ⟨rfl, hb⟩; have n0_ := Aside0.mk (Kd.R_below (by (with_reducible repeat (first | apply Kd.R_alloc | apply Kd.R_drewN | apply Kd.R_drew)); exact HO402.out) hb); have n1_ := Aside0.mk (below_step (by repeat (first | (with_reducible first | exact HB.out | apply below_alloc | apply pw_below_drewN | apply below_drew1) | exact HB.out)) hb); clear HO402; clear HB; have HO402 := n0_; have HB := n1_; clear n0_ n1_; (try clear hb); (try clear hb2); (try clear hk); (try clear hi))))
      go_ret
      exact ⟨by first | rfl | (simp [errW_none, errW_some] <;> rfl) | (simp [*, errW_none, errW_some] <;> rfl), by repeat (first | (with_reducible first | exact HB.out | apply below_alloc | apply pw_below_drewN | apply below_drew1) | exact HB.out)⟩

end Go.Proofs.Ytaihajmdngoeiaa.F

namespace Go.Proofs.Ytaihajmdngoeiaa.Q
open Go.RowKit Go.Proofs.YtaihajmdngoeiaaW.PrintWords Go.Proofs.YtaihajmdngoeiaaW.PrintLast Go.Proofs.YtaihajmdngoeiaaW.PrintMore
open Go.Proofs.Ytaihajmdngoeiaa.F
set_option linter.unusedSimpArgs false

theorem ba_ext (x y : ByteArray) (h : x.size = y.size) (hb : ∀ i : Nat, i < x.size → bt x (i : Int) = bt y (i : Int)) : x = y := by
  refine ByteArray.ext_getElem h fun i h1 h2 => ?_
  have := hb i h1
  rw [kbt_in _ _ h1, kbt_in _ _ h2] at this
  exact UInt8.toNat_inj.1 (by omega)
theorem ex_join (s : ByteArray) {a b c : Nat} (h1 : a ≤ b) (h2 : b ≤ c) : s.extract a b ++ s.extract b c = s.extract a c := by
  rw [ByteArray.extract_append_extract, Nat.min_eq_left h1, Nat.max_eq_right h2]
theorem ex_ex (s : ByteArray) {i k l : Nat} (h : i + l ≤ s.size) : (s.extract i s.size).extract k l = s.extract (i + k) (i + l) := by
  rw [ByteArray.extract_extract, Nat.min_eq_left h]
theorem ex_size (s : ByteArray) {a b : Nat} (h : b ≤ s.size) : (s.extract a b).size = b - a := by rw [ByteArray.size_extract]; omega
theorem toList_ne (x : ByteArray) : ¬ x.toList = ([] : List UInt8) ↔ 0 < x.size := by
  rw [toList_nil]; omega
theorem toList_eq_iff (x y : ByteArray) : x.toList = y.toList ↔ x = y := by
  rw [Lib.toList_data, Lib.toList_data]
  constructor
  · intro h
    apply ByteArray.ext
    exact Array.toList_inj.1 h
  · rintro rfl; rfl

/-- An edit that begins and ends unlike what it replaces. -/
def Tight (s : ByteArray) (e : S42) : Prop :=
  0 ≤ e.f0 ∧ e.f0 ≤ e.f1 ∧ e.f1 ≤ s.size ∧ (e.f0 < e.f1 ∨ 0 < e.f2.size) ∧
  (e.f0 < e.f1 → 0 < e.f2.size → bt s e.f0 ≠ bt e.f2 0 ∧ bt s (e.f1 - 1) ≠ bt e.f2 ((e.f2.size : Int) - 1))

theorem pre_eq (s x : ByteArray) (f t : Nat) (hft : f ≤ t) (hts : t ≤ s.size) (n : Nat) (hn : n ≤ preN s x f t) : s.extract f (f + n) = x.extract 0 n := by
  have hle := pre_le s x f t
  have h1 : (s.extract f (f + n)).size = n := by rw [ex_size _ (by omega)]; omega
  have h2 : (x.extract 0 n).size = n := by rw [ex_size _ (by omega)]; omega
  refine ba_ext _ _ (by rw [h1, h2]) fun i hi => ?_
  rw [h1] at hi
  have h3 := (pre_spec s x f t).1 i (by omega)
  unfold preB at h3
  simp only [Bool.and_eq_true, decide_eq_true_eq, beq_iff_eq] at h3
  rw [bt_cut _ _ _ _ (by rw [h1]; exact hi), bt_cut _ _ _ _ (by rw [h2]; exact hi), Nat.zero_add]
  exact h3.2.2
theorem suf_eq (s x : ByteArray) (f t : Nat) (hts : t ≤ s.size) : s.extract (t - sufN s x f t) t = x.extract (x.size - sufN s x f t) x.size := by
  have hle := suf_le s x f t
  have h1 : (s.extract (t - sufN s x f t) t).size = sufN s x f t := by rw [ex_size _ (by omega)]; omega
  have h2 : (x.extract (x.size - sufN s x f t) x.size).size = sufN s x f t := by rw [ex_size _ (by omega)]; omega
  refine ba_ext _ _ (by rw [h1, h2]) fun i hi => ?_
  rw [h1] at hi
  have h3 := (suf_spec s x f t).1 (sufN s x f t - 1 - i) (by omega)
  unfold sufB at h3
  simp only [Bool.and_eq_true, decide_eq_true_eq, beq_iff_eq] at h3
  rw [bt_cut _ _ _ _ (by rw [h1]; exact hi), bt_cut _ _ _ _ (by rw [h2]; exact hi)]
  have h4 := h3.2.2
  generalize sufN s x f t = q at *
  rw [show t - 1 - (q - 1 - i) = t - q + i by omega, show x.size - 1 - (q - 1 - i) = x.size - q + i by omega] at h4
  exact h4

/-- What normE leaves: nothing, where the stretch is the text; else one edit within, unlike, that does the same. -/
theorem normE_spec (s x : ByteArray) (f t : Nat) (hft : f ≤ t) (hts : t ≤ s.size) :
    (normE s x f t = [] ∧ s.extract f t = x) ∨
    ∃ (f' t' : Nat) (y : ByteArray), normE s x f t = [⟨(f' : Int), (t' : Int), y⟩] ∧ f ≤ f' ∧ f' ≤ t' ∧ t' ≤ t ∧ y.size ≤ x.size ∧ Tight s ⟨(f' : Int), (t' : Int), y⟩ ∧ s.extract f f' ++ y ++ s.extract t' t = x := by
  have hp := pre_le s x f t
  have hps := pre_spec s x f t
  have hpe := pre_eq s x f t hft hts (preN s x f t) (Nat.le_refl _)
  unfold normE
  generalize preN s x f t = n at *
  have hxs : (x.extract n x.size).size = x.size - n := by rw [ex_size _ (Nat.le_refl _)]
  have hq := suf_le s (x.extract n x.size) (f + n) t
  have hqs := suf_spec s (x.extract n x.size) (f + n) t
  have hqe := suf_eq s (x.extract n x.size) (f + n) t hts
  unfold cutE
  generalize sufN s (x.extract n x.size) (f + n) t = q at *
  rw [hxs] at hq hqe ⊢
  have hy : (x.extract n x.size).extract 0 (x.size - n - q) = x.extract n (x.size - q) := by
    rw [ex_ex _ (by omega)]
    congr 1
    omega
  have hz : (x.extract n x.size).extract (x.size - n - q) (x.size - n) = x.extract (x.size - q) x.size := by
    rw [ex_ex _ (by omega)]
    congr 1 <;> omega
  rw [hy]
  rw [hz] at hqe
  have hys : (x.extract n (x.size - q)).size = x.size - q - n := ex_size _ (by omega)
  have hall : s.extract f (f + n) ++ x.extract n (x.size - q) ++ s.extract (t - q) t = x := by
    rw [hpe, hqe, ex_join _ (by omega) (by omega), ex_join _ (by omega) (by omega), ByteArray.extract_zero_size]
  by_cases c : ((f + n : Nat) : Int) < ((t - q : Nat) : Int) ∨ ¬ (x.extract n (x.size - q)).toList = ([] : List UInt8)
  · rw [if_pos c]
    right
    refine ⟨f + n, t - q, _, rfl, by omega, by omega, by omega, by omega, ?_, hall⟩
    rw [toList_ne] at c
    refine ⟨by simp only []; omega, by simp only []; omega, by simp only []; omega, by simp only []; omega, ?_⟩
    simp only []
    intro h1 h2
    constructor
    · have h3 := hps.2
      unfold preB at h3
      intro he
      have h4 : bt (x.extract n (x.size - q)) 0 = bt x ((n : Nat) : Int) := by
        have := bt_cut x n (x.size - q) 0 (by omega)
        simpa using this
      rw [h4] at he
      rw [he] at h3
      simp at h3
      omega
    · have h3 := hqs.2
      unfold sufB at h3
      intro he
      have h4 : bt (x.extract n (x.size - q)) (((x.extract n (x.size - q)).size : Int) - 1) = bt (x.extract n x.size) ((x.size - n - 1 - q : Nat) : Int) := by
        rw [bt_cut x n x.size (x.size - n - 1 - q) (by omega), show (((x.extract n (x.size - q)).size : Int) - 1) = ((x.size - q - n - 1 : Nat) : Int) by omega, bt_cut x n (x.size - q) _ (by omega)]
        congr 2
        omega
      rw [h4, show ((t - q : Nat) : Int) - 1 = ((t - 1 - q : Nat) : Int) by omega] at he
      rw [hxs, he] at h3
      simp at h3
      omega
  · rw [if_neg c]
    left
    refine ⟨rfl, ?_⟩
    rw [toList_ne] at c
    have hf : f + n = t - q := by omega
    have he : x.extract n (x.size - q) = ⟨#[]⟩ := by
      apply ByteArray.ext
      exact Array.eq_empty_of_size_eq_zero (by show (x.extract n (x.size - q)).size = 0; omega)
    rw [he] at hall
    rw [← hall, hf]
    rw [show s.extract f (t - q) ++ (⟨#[]⟩ : ByteArray) = s.extract f (t - q) from ByteArray.append_empty, ex_join _ (by omega) (by omega)]

theorem cnt_zero (P : Nat → Bool) (m : Nat) (h : P 0 = false) : cnt P m 0 = 0 := by
  cases m with
  | zero => rfl
  | succ m => simp [cnt, h]
theorem normE_tight (s : ByteArray) (e : S42) (h : Tight s e) : normE s e.f2 e.f0.toNat e.f1.toNat = [e] := by
  obtain ⟨h0, h1, h2, h3, h4⟩ := h
  have hp : preN s e.f2 e.f0.toNat e.f1.toNat = 0 := by
    refine cnt_zero _ _ ?_
    unfold preB
    by_cases a : 0 < e.f1.toNat - e.f0.toNat
    · by_cases b : 0 < e.f2.size
      · have := (h4 (by omega) b).1
        rw [show ((e.f0.toNat + 0 : Nat) : Int) = e.f0 by omega]
        simp [this]
      · simp [b]
    · simp [a]
  unfold normE
  rw [hp, ByteArray.extract_zero_size, Nat.add_zero]
  have hq : sufN s e.f2 e.f0.toNat e.f1.toNat = 0 := by
    refine cnt_zero _ _ ?_
    unfold sufB
    by_cases a : 0 < e.f1.toNat - e.f0.toNat
    · by_cases b : 0 < e.f2.size
      · have := (h4 (by omega) b).2
        rw [show ((e.f1.toNat - 1 - 0 : Nat) : Int) = e.f1 - 1 by omega, show ((e.f2.size - 1 - 0 : Nat) : Int) = (e.f2.size : Int) - 1 by omega]
        simp [this]
      · simp [b]
    · simp [a]
  rw [hq]
  unfold cutE
  rw [Nat.sub_zero, Nat.sub_zero, ByteArray.extract_zero_size, if_pos (by rw [toList_ne]; omega)]
  rw [show ((e.f0.toNat : Nat) : Int) = e.f0 by omega, show ((e.f1.toNat : Nat) : Int) = e.f1 by omega]

theorem apGo_move (s : ByteArray) {l : List S42} {p : Option Int} (hc : Chain s.size p l) (a b : Int) (h0 : 0 ≤ a) (hab : a ≤ b) (hb : b ≤ s.size) (hf : ∀ e t, l = e :: t → b ≤ e.f0) :
    apGo s a l = s.extract a.toNat b.toNat ++ apGo s b l := by
  cases l with
  | nil => simp only [apGo]; rw [ex_join _ (by omega) (by omega)]
  | cons e t =>
    have := hf _ _ rfl
    simp only [apGo]
    rw [← ByteArray.append_assoc, ← ByteArray.append_assoc, ex_join _ (by omega) (by omega)]
theorem chain_weak {size : Int} {p q : Int} (h : p ≤ q) : ∀ {l : List S42}, Chain size (some q) l → Chain size (some p) l
  | [], _ => trivial
  | e :: t, ⟨c1, c2, c3, c4, c5⟩ => ⟨c1, c2, c3, fun r hr => by cases hr; have := c4 q rfl; omega, c5⟩
theorem chain_none {size : Int} {q : Int} : ∀ {l : List S42}, Chain size (some q) l → Chain size none l
  | [], _ => trivial
  | e :: t, ⟨c1, c2, c3, c4, c5⟩ => ⟨c1, c2, c3, (fun r hr => by cases hr), c5⟩
theorem chain_first {size q : Int} {l : List S42} (h : Chain size (some q) l) : ∀ e t, l = e :: t → q ≤ e.f0 := by
  rintro e t rfl
  have := h.2.2.2.1 _ rfl
  omega

theorem normGo_cons (s : ByteArray) (e : S42) (t : List S42) : normGo s (e :: t) = normE s e.f2 e.f0.toNat e.f1.toNat ++ normGo s t := rfl
/-- All of Normal: valid, no longer, unlike, and it does the same. -/
theorem normGo_all (s : ByteArray) : ∀ (l : List S42) (p : Option Int), Chain s.size p l →
    Chain s.size p (normGo s l) ∧ (normGo s l).length ≤ l.length ∧ tot (normGo s l) ≤ tot l ∧ (∀ e ∈ normGo s l, Tight s e) ∧
    ∀ a : Int, 0 ≤ a → a ≤ s.size → (∀ e t, l = e :: t → a ≤ e.f0) → apGo s a (normGo s l) = apGo s a l
  | [], p, _ => ⟨trivial, by simp [normGo], by simp [normGo], (fun e he => by simp [normGo] at he), fun a _ _ _ => rfl⟩
  | e :: t, p, hc => by
    obtain ⟨c1, c2, c3, c4, c5⟩ := hc
    obtain ⟨i1, i2, i3, i4, i5⟩ := normGo_all s t (some e.f1) c5
    have hf0 : ((e.f0.toNat : Nat) : Int) = e.f0 := by omega
    have hf1 : ((e.f1.toNat : Nat) : Int) = e.f1 := by omega
    have hi5 := i5 e.f1 (by omega) c3 (chain_first c5)
    rw [normGo_cons]
    rcases normE_spec s e.f2 e.f0.toNat e.f1.toNat (by omega) (by omega) with ⟨hn, hx⟩ | ⟨f', t', y, hn, h1, h2, h3, h4, h5, hx⟩
    · rw [hn, List.nil_append]
      refine ⟨?_, by simp only [List.length_cons]; omega, by simp only [tot]; omega, i4, ?_⟩
      · cases p with
        | none => exact chain_none i1
        | some p => exact chain_weak (by have := c4 p rfl; omega) i1
      · intro a ha ha2 hfa
        have hae := hfa _ _ rfl
        simp only [apGo]
        rw [apGo_move s i1 a e.f1 ha (by omega) c3 (chain_first i1), hi5]
        conv => rhs; rw [← hx]
        rw [ex_join _ (by omega) (by omega)]
    · rw [hn, List.singleton_append]
      refine ⟨⟨by simp, by simp only []; omega, by simp only []; omega, fun q hq => by have := c4 q hq; simp only []; omega, ?_⟩, by simp only [List.length_cons]; omega, by simp only [tot]; omega, ?_, ?_⟩
      · exact chain_weak (p := (t' : Int)) (by omega) i1
      · intro z hz
        rcases List.mem_cons.1 hz with rfl | hz
        · exact h5
        · exact i4 z hz
      · intro a ha ha2 hfa
        have hae := hfa _ _ rfl
        simp only [apGo]
        rw [apGo_move s i1 (t' : Int) e.f1 (by omega) (by omega) c3 (chain_first i1), hi5]
        conv => rhs; rw [← hx]
        simp only [Int.toNat_natCast]
        simp only [← ByteArray.append_assoc]
        rw [ex_join s (a := a.toNat) (b := e.f0.toNat) (c := f') (by omega) (by omega)]
theorem normGo_tight (s : ByteArray) : ∀ (l : List S42), (∀ e ∈ l, Tight s e) → normGo s l = l
  | [], _ => rfl
  | e :: t, h => by
    rw [normGo_cons, normE_tight s e (h e List.mem_cons_self), normGo_tight s t (fun x hx => h x (List.mem_cons_of_mem _ hx))]
    rfl

theorem least_loop (s : ByteArray) (hs : s.size ≤ 1048576) (l : List S42) (hl : l.length ≤ 65536) (h2 : ∀ e ∈ l, e.f2.size ≤ 1048576) (ht : ∀ e ∈ l, Tight s e) (d : Nat) : ∀ (i : Nat), i ≤ l.length → l.length - i = d →
    Ev (fun k => monikerlaw1_EditsLeast.l0 k s l (l.length : Int) (i : Int)) true := by
  induction d with
  | zero =>
    intro i h1 h2
    refine ⟨1, fun n hn => ?_⟩
    obtain ⟨k, rfl⟩ : ∃ m, n = m + 1 := ⟨n - 1, by omega⟩
    simp only [monikerlaw1_EditsLeast.l0]
    rw [if_neg (by omega)]
  | succ d ih =>
    intro i h1 hd
    have hi : i < l.length := by omega
    obtain ⟨K, hK⟩ := ih (i + 1) (by omega) (by omega)
    refine ⟨K + 1, fun n hn => ?_⟩
    obtain ⟨k, rfl⟩ : ∃ m, n = m + 1 := ⟨n - 1, by omega⟩
    have g := hK k (by omega)
    have hw : wrap64 ((i : Int) + 1) = ((i + 1 : Nat) : Int) := by rw [w64] <;> omega
    obtain ⟨t0, t1, t2, t3, t4⟩ := ht _ (List.getElem_mem hi)
    have hx := h2 _ (List.getElem_mem hi)
    simp only at g
    simp only [monikerlaw1_EditsLeast.l0, hw]
    rw [rd_at l i hi, if_pos (Int.ofNat_lt.mpr hi), if_pos (Int.natCast_nonneg _), if_pos (Int.ofNat_lt.mpr hi), if_pos t0, if_pos t1, if_pos t2]
    generalize l[i] = e at *
    have hz : (s.extract e.f0.toNat e.f1.toNat).size = e.f1.toNat - e.f0.toNat := ex_size _ (by omega)
    have hne : ¬ (s.extract e.f0.toNat e.f1.toNat).toList = e.f2.toList := by
      rw [toList_eq_iff]
      intro he
      have h5 : (s.extract e.f0.toNat e.f1.toNat).size = e.f2.size := by rw [he]
      have h6 := (t4 (by omega) (by omega)).1
      have h7 := bt_cut s e.f0.toNat e.f1.toNat 0 (by omega)
      rw [he, show ((e.f0.toNat + 0 : Nat) : Int) = e.f0 by omega] at h7
      exact h6 h7.symm
    rw [if_neg hne]
    by_cases a : (s.extract e.f0.toNat e.f1.toNat).toList = ([] : List UInt8)
    · rw [if_pos a]; exact g
    · rw [if_neg a]
      by_cases b : e.f2.toList = ([] : List UInt8)
      · rw [if_pos b]; exact g
      · rw [if_neg b]
        rw [toList_ne] at a b
        obtain ⟨t5, t6⟩ := t4 (by omega) b
        have h7 := bt_cut s e.f0.toNat e.f1.toNat 0 (by omega)
        rw [show ((e.f0.toNat + 0 : Nat) : Int) = e.f0 by omega] at h7
        have hw1 : wrap64 (((s.extract e.f0.toNat e.f1.toNat).size : Int) - 1) = ((e.f1.toNat - e.f0.toNat - 1 : Nat) : Int) := by rw [hz, w64] <;> omega
        have hw2 : wrap64 ((e.f2.size : Int) - 1) = (e.f2.size : Int) - 1 := by rw [w64] <;> omega
        have h8 := bt_cut s e.f0.toNat e.f1.toNat (e.f1.toNat - e.f0.toNat - 1) (by omega)
        rw [show ((e.f0.toNat + (e.f1.toNat - e.f0.toNat - 1) : Nat) : Int) = e.f1 - 1 by omega] at h8
        have h9 : ¬ bt (s.extract e.f0.toNat e.f1.toNat) 0 = bt e.f2 0 := fun he => t5 (h7.symm.trans he)
        rw [hw1, hw2, if_pos (by omega), if_pos (by omega), if_neg h9, if_pos (by omega), if_pos (by omega), if_pos (by omega), if_pos (by omega), h8, if_neg t6]
        exact g
theorem tot_mem {l : List S42} {e : S42} (h : e ∈ l) : e.f2.size ≤ tot l := by
  obtain ⟨j, hj, rfl⟩ := List.mem_iff_getElem.1 h
  exact tot_le j hj
theorem EditsLeast_is (text : ByteArray) (l : List S42) (hb : text.size + tot l ≤ 1048576) : Ev (fun k => monikerlaw1_EditsLeast.f k text l) true := by
  unfold monikerlaw1_EditsLeast.f
  refine (Normal_is text (by omega) l (fun x hx => by have := tot_mem hx; omega)).bind ?_
  unfold Nspec
  by_cases h : vspec text.size l = 0
  · rw [if_pos h]
    simp only [if_true]
    obtain ⟨hl, hc⟩ := vspec_zero h
    obtain ⟨i1, i2, i3, i4, i5⟩ := normGo_all text l none hc
    have hv : vspec text.size (normGo text l) = 0 := vspec_of (by omega) i1
    have hap := i5 0 (by omega) (by omega) (ap_first hc)
    refine (Apply_is text l (by omega)).bind ?_
    refine (Apply_is text (normGo text l) (by omega)).bind ?_
    refine (Normal_is text (by omega) (normGo text l) (fun x hx => by have := tot_mem hx; omega)).bind ?_
    unfold Apspec Nspec
    rw [if_pos h, if_pos hv, if_pos hv, hap, normGo_tight text _ i4]
    simp only [if_true]
    simp only [if_neg (show ¬ ((normGo text l).length : Int) > (l.length : Int) by omega)]
    refine (same_is (normGo text l) (by omega)).bind ?_
    simp only [Bool.not_true]
    have hloop := least_loop text (by omega) (normGo text l) (by omega) (fun e he => by have := tot_mem he; omega) i4 (normGo text l).length 0 (by omega) (by omega)
    by_cases c : ((normGo text l).length : Int) = 0
    · have hnil : normGo text l = [] := List.eq_nil_of_length_eq_zero (by omega)
      have hs : apGo text 0 l = text := by
        rw [← hap, hnil]
        simp only [apGo]
        exact ByteArray.extract_zero_size
      refine Ev.step (f := fun k => monikerlaw1_EditsLeast.j1 k text (normGo text l) ((apGo text 0 l).toList != text.toList)) (fun k => by
        simp only [monikerlaw1_EditsLeast.j0]
        rw [if_neg (by simp), if_pos c]) ?_
      rw [hs]
      refine Ev.step (f := fun k => monikerlaw1_EditsLeast.l0 k text (normGo text l) ((normGo text l).length : Int) 0) (fun k => by
        simp only [monikerlaw1_EditsLeast.j1]
        rw [if_neg (by simp)]) ?_
      exact hloop
    · refine Ev.step (f := fun k => monikerlaw1_EditsLeast.j1 k text (normGo text l) false) (fun k => by
        simp only [monikerlaw1_EditsLeast.j0]
        rw [if_neg (by simp), if_neg c]) ?_
      refine Ev.step (f := fun k => monikerlaw1_EditsLeast.l0 k text (normGo text l) ((normGo text l).length : Int) 0) (fun k => by
        simp only [monikerlaw1_EditsLeast.j1]
        rw [if_neg (by simp)]) ?_
      exact hloop
  · rw [if_neg h]
    simp only [if_neg h]
    refine (Valid_is text.size l).bind ?_
    unfold Vspec
    rw [if_neg (show ¬ (text.size : Int) < 0 by omega), if_neg (show ¬ (text.size : Int) > 4611686018427387904 by omega)]
    simp only [if_true]
    exact Ev.now _
end Go.Proofs.Ytaihajmdngoeiaa.Q

namespace Go.Proofs.Ytaihajmdngoeiaa.O
open Go.ChangeShapes Go.WideShapes Go.Deep Go.Proofs.YtaihajmdngoeiaaW.PrintWords

theorem mem_weightsAll {H : Type} {P : Program} {e : TypeId} : ∀ {l : List (DataW H)} {y : DataW H}, y ∈ l → ∀ n ∈ y.weights P e, n ∈ DataW.weightsAll P e l
  | y0 :: l, y, h, n, hn => by
    simp only [DataW.weightsAll, List.mem_append]
    rcases List.mem_cons.1 h with rfl | h
    · exact .inl hn
    · exact .inr (mem_weightsAll h n hn)

end Go.Proofs.Ytaihajmdngoeiaa.O

namespace Go.Proofs.Ytaihajmdngoeiaa.O
open Go.ChangeShapes Go.WideShapes Go.Deep Go.Proofs.YtaihajmdngoeiaaW.PrintWords Go.Proofs.Ytaihajmdngoeiaa
set_option linter.unusedVariables false

section
variable {H : Type} {enc : TypeId × Value → H}
/-- The wrap of a row with a condition of its specification's own, the reach handed on. -/
theorem returns_upto {a : Assume} {C : Checked} {os : Os} {f : FuncId} {fn : Func} {s : OpenSpec} {k : (H : Type) → List (DataW H) → Bool} (hk : s.cond = some k) {F : Stop.Interp} {conds : List PathCond} {apart fresh handsOn again : Bool}
    (own : ownKnob C.prog.godebug = none) (started : os.Started) (noInit : C.prog.inits.idxOf? f = none) (hfn : C.prog.funcs[f]? = some fn)
    (witness : ∃ (w : World) (tape : Tape) (i : Input), w.os = os ∧ (w.forCall tape i).Shaped C.prog ∧ i.vars = [] ∧ Input.okWide C.prog (w.forCall tape i) .any w.heap.size f i ∧
      s.pre6 enc C.prog fn conds apart (w.forCall tape i).memory i.args ∧ a.holds C.prog (lone (Frame.enter C.prog f i.args .normal) [] (w.forCall tape i)))
    (contract : ∀ (W : World) (base : Nat) (args : Array Value) (ds gs : List (DataW H)) (before : List MemPlace),
      (∀ (j : Nat) t v, fn.params[j]? = some t → args[j]? = some v → Value.okWide C.prog W .any base t v) →
      DataW.Whole enc C.prog fn.params.toList s.vars apart W args.toList ds gs before →
      conds.all (PathCond.test C.prog ⟨fn.params.toList, ds, s.bare.plain.varTypes C.prog, gs⟩) = true → k H (ds ++ gs) = true →
      (DataW.weightsEach C.prog (fn.params.toList ++ s.bare.plain.varTypes C.prog) (ds ++ gs)).all (· ≤ reachBytes) = true →
      a.holds C.prog (lone (Frame.enter C.prog f args .normal) [] W) →
      Calls C.prog f args W fun e W' => ∃ v, e = .returned v ∧ (s.at F).post enc C.prog fn apart fresh handsOn again W args v W') :
    ReturnsInHanded a C os f .any (s.pre6 enc C.prog fn conds apart) ((s.at F).post enc C.prog fn apart fresh handsOn again) := by
  refine returnsInHanded_of_calls own started noInit witness ?_
  intro w tape i _ _ _ hok hpre hholds
  obtain ⟨_, _, _, fn', hfn', _, _, _, _, hval⟩ := hok
  have e : fn' = fn := Option.some.inj (hfn'.symm.trans hfn)
  subst e
  obtain ⟨ds, gs, before, hw, hc, hkk⟩ := (OpenSpec.pre_some hk conds apart _ _).1 hpre.1
  have hw' := DataW.Whole.of_heap (w' := w.forCall tape i) (by rfl) hw
  have hz := hpre.2
  refine (contract (w.forCall tape i) w.heap.size i.args ds gs before hval hw' hc hkk (hz.weights hw) hholds).mono fun e W' ⟨v, he, hp⟩ => ?_
  subst he
  exact ChangeSpec.post_blind hp
end

theorem witnessU {H : Type} {enc : TypeId × Value → H} {C : Checked} {os : Os} {f : FuncId} {fn : Func} {s : OpenSpec} {k : (H : Type) → List (DataW H) → Bool} (hk : s.cond = some k) {conds : List PathCond} {apart : Bool} (modest : Bool) (i : Input) (fuel : Nat)
    (hv : (World.plainHolding C.prog os i).variablesB C.prog = true)
    (hr : ((World.plainHolding C.prog os i).heap.toList.drop C.prog.globals.size).take ((begin C.prog (fun _ _ => 0) default).world.heap.size - C.prog.globals.size) =
      (begin C.prog (fun _ _ => 0) default).world.heap.toList.drop C.prog.globals.size)
    (hok : Input.okWideB C.prog (World.plainHolding C.prog os i) f ⟨#[], i.args, []⟩ = true)
    (hB : (match DataW.whole enc C.prog (World.plainHolding C.prog os i).memory fn.params.toList s.vars apart i.args.toList fuel with
      | some x => conds.all (PathCond.test C.prog ⟨fn.params.toList, x.1, s.bare.plain.varTypes C.prog, x.2.1⟩) && k H (x.1 ++ x.2.1)
      | none => false) = true)
    (hsz : s.bare.sizedB enc C.prog fn apart (World.plainHolding C.prog os i).memory i.args fuel = true) :
    ∃ (w : World) (tape : Tape) (i : Input), w.os = os ∧ (w.forCall tape i).Shaped C.prog ∧ i.vars = [] ∧ Input.okWide C.prog (w.forCall tape i) .any w.heap.size f i ∧
      s.pre6 enc C.prog fn conds apart (w.forCall tape i).memory i.args ∧ ({ modest := modest } : Assume).holds C.prog (lone (Frame.enter C.prog f i.args .normal) [] (w.forCall tape i)) := by
  cases hx : DataW.whole enc C.prog (World.plainHolding C.prog os i).memory fn.params.toList s.vars apart i.args.toList fuel with
  | none => rw [hx] at hB; cases hB
  | some x =>
    rw [hx] at hB
    have h := (Bool.and_eq_true _ _).mp hB
    exact OpenSpec.witness hk modest i fuel hv hr hok hx h.1 h.2 hsz

/-- As Opens; and the value is no heavier than the reading's bulk. -/
def OpensU {α : Type} (P : Program) (t : TypeId) (d : Kd α) (B : α → Prop) (m : α → Nat) : Prop :=
  ∀ {H : Type} {enc : TypeId × Value → H} {w : World} {base : Nat} {spare : Nat → Bool} {held : Bool} {fuel : Nat} {cs : List Value} {x : DataW H × List MemPlace},
    DataW.trod enc P w base spare held fuel t cs = some x → (∀ n ∈ x.1.weights P t, n ≤ reachBytes) → ∃ a, d.K w a cs ∧ B a ∧ m a ≤ Rows.uptoBulk x.1

theorem opens_intU {P : Program} {t : TypeId} {k : IntKind} (hu : P.underlying t = some (.int k)) : OpensU P t (Kd.int k) (fun n => (Lit.int k n).wf = true) (fun _ => 1) := fun h _ => by
  obtain ⟨n, rfl, rfl, hw⟩ := DataW.trod_int hu h
  exact ⟨n, rfl, hw, by simp [Rows.uptoBulk]⟩
theorem opens_stringU {P : Program} {t : TypeId} (hu : P.underlying t = some .string) : OpensU P t Kd.string (fun s => s.size ≤ 140737488351232) (fun s => s.size + 1) := fun h hw => by
  obtain ⟨s, rfl, rfl, _⟩ := DataW.trod_string hu h
  have e : s.data.toList.length = s.size := by rw [Array.length_toList]; rfl
  refine ⟨s, rfl, ?_, by simp only [Rows.uptoBulk]; omega⟩
  have := hw s.data.toList.length (by simp [DataW.weights])
  rw [e] at this
  exact this

theorem bulkAll_snoc {H : Type} : ∀ (l : List (DataW H)) (d : DataW H), Rows.uptoBulkAll (l ++ [d]) = Rows.uptoBulkAll l + Rows.uptoBulk d
  | [], d => by simp [Rows.uptoBulkAll]
  | x :: l, d => by simp only [List.cons_append, Rows.uptoBulkAll, bulkAll_snoc l d]; omega
def sumM {α : Type} (m : α → Nat) : List α → Nat
  | [] => 0
  | a :: l => m a + sumM m l
theorem sumM_snoc {α : Type} (m : α → Nat) : ∀ (l : List α) (a : α), sumM m (l ++ [a]) = sumM m l + m a
  | [], a => by simp [sumM]
  | x :: l, a => by simp only [List.cons_append, sumM, sumM_snoc m l a]; omega

theorem open_rowU {α : Type} {P : Program} {t e : TypeId} {d : Kd α} {B : α → Prop} {M : α → Nat} (hu : P.underlying t = some (.slice e)) (he : OpensU P e d B M) (hc : P.cellsOf e = d.sz)
    {H : Type} {enc : TypeId × Value → H} {w : World} {base : Nat} {spare : Nat → Bool} {held : Bool} {fuel : Nat} {A : Option Addr} {n c : Nat} {x : DataW H × List MemPlace}
    (h : DataW.trod enc P w base spare held fuel t [.slice A n c] = some x) (hw : ∀ n ∈ x.1.weights P t, n ≤ reachBytes) :
    ∃ xs : List α, xs.length = n ∧ d.C w A n xs ∧ n ≤ c ∧ (A = none → c = 0) ∧ (∀ a ∈ xs, B a) ∧ n * P.bytesOf e ≤ 140737488351232 ∧ sumM M xs + 1 ≤ Rows.uptoBulk x.1 := by
  rcases open_slice hu h with ⟨hcs, rfl⟩ | ⟨a, len, cap, m, fu, D, Pl, hcs, hb, hl, hm, hmm, rfl, hel⟩
  · simp only [List.cons.injEq, Value.slice.injEq, and_true] at hcs
    obtain ⟨rfl, rfl, rfl⟩ := hcs
    exact ⟨[], rfl, ⟨rfl, by omega, fun h0 => absurd h0 (by omega)⟩, by omega, fun _ => rfl, (fun a ha => by cases ha), by omega, by simp [sumM, Rows.uptoBulk]⟩
  · simp only [List.cons.injEq, Value.slice.injEq, and_true] at hcs
    obtain ⟨rfl, rfl, rfl⟩ := hcs
    have hlm : n ≤ m := by rw [hmm]; split <;> omega
    have hex : ∀ i, i < n → ∃ v : α, (∃ cs, d.K w v cs ∧ ∀ j u, cs[j]? = some u → w.cell? (a.add (i * d.sz + j)) = some u) ∧ B v ∧ M v ≤ Rows.uptoBulk (D i) := by
      intro i hi
      obtain ⟨cs', hc1, hc2⟩ := hel i (by omega)
      have hmem : D i ∈ (List.range n).map D := List.mem_map.2 ⟨i, List.mem_range.2 hi, rfl⟩
      obtain ⟨v, hv, hB, hM⟩ := he hc2 (fun q hq => hw q (by
        simp only [DataW.weights, hu, List.mem_cons, List.mem_append]
        exact .inr (.inl (mem_weightsAll hmem q hq))))
      refine ⟨v, ⟨cs', hv, fun j u hj => ?_⟩, hB, hM⟩
      obtain ⟨_, hcl, hat⟩ := World.cells?_some hc1
      have hjl : j < cs'.length := (List.getElem?_eq_some_iff.1 hj).1
      have := hat j (by omega)
      rw [hc] at this
      rw [← Go.Deep.add_add, this, hj]
    have key : ∀ k, k ≤ n → ∃ xs : List α, xs.length = k ∧ (∀ j p, xs[j]? = some p → (∃ cs, cs.length = d.sz ∧ d.K w p cs ∧ ∀ i u, cs[i]? = some u → w.cell? (a.add (j * d.sz + i)) = some u) ∧ B p) ∧ sumM M xs ≤ Rows.uptoBulkAll ((List.range k).map D) := by
      intro k
      induction k with
      | zero => intro _; exact ⟨[], rfl, fun j p hj => by simp at hj, by simp [sumM]⟩
      | succ k ih =>
        intro hk
        obtain ⟨xs, hx, hxs, hsum⟩ := ih (by omega)
        obtain ⟨v, ⟨cs, hv, hcell⟩, hB, hM⟩ := hex k (by omega)
        refine ⟨xs ++ [v], by simp [hx], fun j p hj => ?_, ?_⟩
        · rcases Nat.lt_or_ge j k with hjk | hjk
          · rw [List.getElem?_append_left (by omega)] at hj
            exact hxs j p hj
          · have hjl := (List.getElem?_eq_some_iff.1 hj).1
            rw [List.length_append, List.length_singleton] at hjl
            obtain rfl : j = k := by omega
            have hp : v = p := by simpa [List.getElem?_append_right, hx] using hj
            subst hp
            exact ⟨⟨cs, d.K_len hv, hv, hcell⟩, hB⟩
        · rw [sumM_snoc, List.range_succ, List.map_append, List.map_cons, List.map_nil, bulkAll_snoc]
          omega
    obtain ⟨xs, hx, hxs, hsum⟩ := key n (Nat.le_refl _)
    refine ⟨xs, hx, ⟨hx, by have : maxLen = 9223372036854775807 := rfl; omega, fun _ => ⟨a, rfl, fun j p hj => (hxs j p hj).1⟩⟩, hl, (fun h => by cases h), fun v hv => ?_, ?_, ?_⟩
    · obtain ⟨j, hj, rfl⟩ := List.mem_iff_getElem.1 hv
      exact (hxs j _ (List.getElem?_eq_getElem hj)).2
    · have := hw ((((List.range n).map D).length + ((List.range (m - n)).map fun j => D (n + j)).length) * P.bytesOf e) (by
        simp only [DataW.weights, hu]
        exact List.mem_cons_self)
      simp only [List.length_map, List.length_range] at this
      have h2 : n * P.bytesOf e ≤ (n + (m - n)) * P.bytesOf e := Nat.mul_le_mul_right _ (by omega)
      have h3 : reachBytes = 140737488351232 := rfl
      omega
    · simp only [Rows.uptoBulk]
      omega
end Go.Proofs.Ytaihajmdngoeiaa.O

namespace Go.Proofs.Ytaihajmdngoeiaa.H
open Go.ChangeShapes Go.WideShapes Go.Deep Go.Proofs.YtaihajmdngoeiaaW.PrintWords Go.Proofs.Ytaihajmdngoeiaa.F

def B42 (x : S42) : Prop := (Lit.int .i64 x.f0).wf = true ∧ (Lit.int .i64 x.f1).wf = true ∧ x.f2.size ≤ 140737488351232
theorem cells42 : Try.prog.cellsOf 42 = 3 := by kernel_rfl
theorem cells3 : Try.prog.cellsOf 3 = 1 := by kernel_rfl
theorem cells9 : Try.prog.cellsOf 9 = 1 := by kernel_rfl
theorem bytes42 : Try.prog.bytesOf 42 = 32 := by kernel_rfl
end Go.Proofs.Ytaihajmdngoeiaa.H

namespace Go.Proofs.Ytaihajmdngoeiaa.H
open Go.ChangeShapes Go.WideShapes Go.Deep Go.Proofs.YtaihajmdngoeiaaW.PrintWords Go.Proofs.Ytaihajmdngoeiaa.F Go.Proofs.Ytaihajmdngoeiaa
theorem opens42U : O.OpensU Try.prog 42 k42 B42 (fun x => x.f2.size + 4) := by
  intro H enc w base spare held fuel cs x h hw
  obtain ⟨ys, n, rfl, rfl, hlen, hyl, hf⟩ := DataW.trod_struct Try.underlying42 h
  rw [cells42] at hlen
  obtain ⟨c0, c1, c2, rfl⟩ : ∃ a b c, cs = [a, b, c] := by
    match cs, hlen with
    | [a, b, c], _ => exact ⟨a, b, c, rfl⟩
  obtain ⟨y0, y1, y2, rfl⟩ : ∃ a b c, ys = [a, b, c] := by
    match ys, hyl with
    | [a, b, c], _ => exact ⟨a, b, c, rfl⟩
  have f0 := hf 0 { name := "From", type := 3, offset := 0, embedded := false, tag := "", pkgPath := "", byteOffset := 0 } rfl
  have f1 := hf 1 { name := "To", type := 3, offset := 1, embedded := false, tag := "", pkgPath := "", byteOffset := 8 } rfl
  have f2 := hf 2 { name := "Text", type := 9, offset := 2, embedded := false, tag := "", pkgPath := "", byteOffset := 16 } rfl
  simp only [cells3, cells9, List.drop_zero, List.drop_succ_cons, List.take_succ_cons, List.take_zero, List.getElem?_cons_zero, List.getElem?_cons_succ] at f0 f1 f2
  have hq : ∀ (j : Nat) (t : TypeId) (d : DataW H), [3, 3, 9][j]? = some t → [y0.1, y1.1, y2.1][j]? = some d → ∀ n ∈ d.weights Try.prog t, n ≤ reachBytes := by
    intro j t d h1 h2 q hq
    refine hw q ?_
    simp only [DataW.weights, Try.underlying42]
    exact DataW.weights_mem_each (j := j) h1 h2 q hq
  obtain ⟨a0, e0, w0, m0⟩ := O.opens_intU Try.underlying3 f0 (hq 0 _ _ rfl rfl)
  obtain rfl : c0 = .int .i64 a0 := (List.cons.inj e0).1
  obtain ⟨a1, e1, w1, m1⟩ := O.opens_intU Try.underlying3 f1 (hq 1 _ _ rfl rfl)
  obtain rfl : c1 = .int .i64 a1 := (List.cons.inj e1).1
  obtain ⟨a2, e2, w2, m2⟩ := O.opens_stringU Try.underlying9 f2 (hq 2 _ _ rfl rfl)
  obtain rfl : c2 = .string a2 := (List.cons.inj e2).1
  refine ⟨⟨a0, a1, a2⟩, k42_mk w _, ⟨w0, w1, w2⟩, ?_⟩
  show a2.size + 4 ≤ Rows.uptoBulk (DataW.agg [y0.1, y1.1, y2.1])
  simp only [Rows.uptoBulk, Rows.uptoBulkAll]
  simp only at m0 m1 m2
  generalize Rows.uptoBulk y0.1 = z0 at m0 ⊢
  generalize Rows.uptoBulk y1.1 = z1 at m1 ⊢
  generalize Rows.uptoBulk y2.1 = z2 at m2 ⊢
  omega
end Go.Proofs.Ytaihajmdngoeiaa.H

namespace Go.Proofs.Ytaihajmdngoeiaa.L
open Go.RowKit Go.Proofs.YtaihajmdngoeiaaW.PrintWords Go.Proofs.YtaihajmdngoeiaaW.PrintLast Go.Proofs.YtaihajmdngoeiaaW.PrintMore
open Go.Proofs.Ytaihajmdngoeiaa.F Go.Proofs.Ytaihajmdngoeiaa.H
set_option linter.unusedVariables false
set_option linter.unusedSimpArgs false

theorem tot_wt : ∀ (l : List S42), Q.tot l + 4 * l.length = O.sumM (fun x => x.f2.size + 4) l
  | [] => rfl
  | x :: l => by
    have := tot_wt l
    simp only [Q.tot, O.sumM, List.length_cons]
    omega
theorem least_walk (a0 : ByteArray) (A1 : Option Addr) (c1 : Nat) (l : List S42) (w : World) (hs : a0.size ≤ 140737488351232) (hr : Kd.C k42 w A1 l.length l) (hc : l.length ≤ c1) (hn : A1 = none → c1 = 0) (hB : ∀ x ∈ l, B42 x) (hb : l.length * 32 ≤ 140737488351232) (hu : (a0.size + 1) + (O.sumM (fun x => x.f2.size + 4) l + 1) ≤ 1048576) :
    Calls Try.prog 10 #[.string a0, .slice A1 l.length c1] w fun e w' => e = .returned (.bool true) ∧ Below w.heap.size w w' := by
  rw [← tot_wt] at hu
  obtain ⟨k, hk⟩ := (Q.EditsLeast_is a0 l (by omega)).rounds
  exact monikerlaw1_EditsLeast.calls k a0 A1 c1 l true w hr hc hk
end Go.Proofs.Ytaihajmdngoeiaa.L


namespace Go.Proofs.Ytaihajmdngoeiaa.editsLeast
open Go.ChangeShapes Go.WideShapes Go.ChangeAt Go.RowKit Go.Proofs.Ytaihajmdngoeiaa
open Go.ChangeMaps (open_string shut_string)
set_option linter.unusedVariables false
theorem own : ownKnob Try.prog.godebug = none := by kernel_rfl
theorem laidOut : laidOutB Try.prog = true := by kernel_rfl
set_option maxRecDepth 100000 in
theorem lifted (os : Os) (started : os.Started) (H : Type) (enc : TypeId × Value → H) (F : Stop.Interp) :
    ReturnsInHanded {} Try.checked os 10 .any ((Rows.OpenSpec.upto Rows.editsLeastSpec).pre6 enc Try.prog Try.f10 Rows.editsLeastUptoRow.domain false) (((Rows.OpenSpec.upto Rows.editsLeastSpec).at F).post enc Try.prog Try.f10 false true false false) := by
  refine O.returns_upto (k := Rows.uptoSmall) (s := Rows.OpenSpec.upto Rows.editsLeastSpec) rfl (C := Try.checked) own started (by kernel_rfl) Try.func10
    (O.witnessU (enc := enc) (C := Try.checked) (s := Rows.OpenSpec.upto Rows.editsLeastSpec) rfl false ⟨#[], #[.string ByteArray.empty, .slice none 0 0], []⟩ 8 (by kernel_rfl) (by kernel_rfl) (by kernel_rfl) (by kernel_rfl) (by kernel_rfl)) ?_
  intro W base args ds gs before hval0 hW hcnd hk0 hsz0 _
  have hsz : (DataW.weightsEach Try.prog (Try.f10.params.toList ++ Rows.editsLeastSpec.plain.varTypes Try.prog) (ds ++ gs)).all (· ≤ reachBytes) = true := hsz0
  have hval : ∀ (j : Nat) t v, Try.f10.params[j]? = some t → args[j]? = some v → Value.okWide Try.prog W .any base t v := hval0
  have hW' := hW
  obtain ⟨p, q, hA0, hV, rfl, hfz, hnd⟩ := hW
  have hA : DataW.TrodAll enc Try.prog W 0 (fun _ => true) true Try.f10.params.toList args.toList ds p := hA0
  rw [Try.params10] at hA hval hsz
  obtain ⟨v0, vs0, d0, ds0, p0, q0, hargs, rfl, rfl, h0, r0⟩ := trodAll_cons hA
  obtain ⟨v1, vs1, d1, ds1, p1, q1, rfl, rfl, rfl, h1, r1⟩ := trodAll_cons r0
  obtain ⟨rfl, rfl, rfl⟩ := trodAll_nil r1
  obtain rfl : args = #[v0, v1] := by cases args; simp_all
  obtain ⟨rfl, rfl⟩ := trodVars_none hV
  have hbulk : Rows.uptoBulkAll ([d0, d1] ++ []) ≤ 1048576 := of_decide_eq_true hk0
  simp only [List.append_nil, Rows.uptoBulkAll, Nat.add_zero] at hbulk
  obtain ⟨a0, rfl, rfl, rfl, y0⟩ := open_string Try.underlying9 (hval 0 9 v0 rfl rfl) h0
  have w0 : a0.size ≤ 140737488351232 := by
    have z := sized_string hsz (j := 0) (t := 9) rfl rfl
    rw [Array.length_toList] at z
    exact z
  have hm0 : a0.size + 1 ≤ Rows.uptoBulk (DataW.lit (H := H) (.string a0.data.toList)) := by simp only [Rows.uptoBulk]; rw [Array.length_toList]; exact Nat.le_refl _
  obtain ⟨a1, len1, cap1, rfl⟩ := okWide_slice Try.underlying22 (hval 1 22 v1 rfl rfl)
  have k1 := h1
  have lt1 : ∀ x ∈ p1, x.block < W.heap.size := by obtain ⟨m, hm⟩ := k1; exact DataW.trod_lt m _ _ _ hm
  obtain ⟨fu1, hf1⟩ := h1
  have hg1 : DataW.trod enc Try.prog W 0 (fun _ => true) true fu1 22 [.slice a1 len1 cap1] = some (d1, p1) := by simpa [Value.cells] using hf1
  have hq1 : ∀ n ∈ DataW.weights Try.prog 22 d1, n ≤ reachBytes := fun n hn => of_decide_eq_true (List.all_eq_true.1 hsz n (DataW.weights_mem_each (j := 1) rfl rfl n hn))
  obtain ⟨l1, rfl, hC1, hc1, hn1, hB1, hb1, hm1⟩ := O.open_rowU Try.underlying22 Go.Proofs.Ytaihajmdngoeiaa.H.opens42U Go.Proofs.Ytaihajmdngoeiaa.H.cells42 hg1 hq1
  rw [Go.Proofs.Ytaihajmdngoeiaa.H.bytes42] at hb1
  clear hA0 hval0 hsz0 hsz
  refine (L.least_walk a0 a1 cap1 l1 W w0 hC1 hc1 hn1 hB1 hb1 (Nat.le_trans (Nat.add_le_add hm0 hm1) hbulk)).mono fun e W' ⟨he, bel⟩ => ?_
  subst he
  exact ⟨_, rfl, _, _, _, [], _, [], hW', trodAll_mk1 (shut_bool Try.underlying4 _), (trodAll_cons_mk (shut_string Try.underlying9 y0) (trodAll_cons_mk (Below.trod laidOut (by kernel_rfl) (of_decide_eq_true (by kernel_rfl)) k1 bel lt1) trodAll_mk0)), rfl, bel.frame _, fun h => by cases h⟩
theorem over : Rows.editsLeastUptoRow.holds Try.pinned (Rows.OpenSpec.upto Rows.editsLeastSpec) :=
  OpenClaim.holds_of_cond 10 Try.f10 rfl rfl rfl rfl rfl rfl rfl ⟨rfl, rfl, rfl, rfl, rfl⟩ rfl rfl rfl rfl rfl (by kernel_rfl) Try.func10 (by kernel_rfl)
    (of_decide_eq_true (by kernel_rfl)) (by unfold Func.isWrapper; first | (rw [if_pos (by decide +kernel)]; kernel_rfl) | (rw [if_neg (by decide +kernel)]; exact ⟨rfl, rfl⟩))
    (fun os started H enc _ F => lifted os started H enc F)
theorem proved : Rows.EditsLeastUptoSaid := over
#print axioms proved
end Go.Proofs.Ytaihajmdngoeiaa.editsLeast
namespace Go.Proofs.Ytaihajmdngoeiaa
/-- The row, under a short name, for the claim. -/
theorem editsLeast_holds : Rows.EditsLeastUptoSaid := editsLeast.proved
end Go.Proofs.Ytaihajmdngoeiaa
