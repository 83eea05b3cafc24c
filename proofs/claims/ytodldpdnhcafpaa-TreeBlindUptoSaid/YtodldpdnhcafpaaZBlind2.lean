/- Texts of the proof of one law (Blind), part 2: functions printed as Lean functions with their walks, and what is proved of them. Conditions: those of each theorem. -/
import Derived.Test.YtodldpdnhcafpaaZBlind1
import Derived.RangeFuncNested
import Derived.RangeFuncBound
import Derived.RangeFuncCalls
import Derived.RangeFuncLeaves
import Derived.RangeFuncBox
import Derived.Shelf.Abstract
import Derived.Shelf.RegionOpen
import Derived.WalkKit
import Derived.OwnWalkIn
import Derived.TacticsInMore
import Derived.LoopNIn
import Derived.LoopIn
import Derived.OrdersIn
import Derived.BigQuiet
namespace Go.Proofs.Ytodldpdnhcafpaa.K
open Go.RowKit Go.Proofs.YtodldpdnhcafpaaW.PrintWords Go.Proofs.YtodldpdnhcafpaaW.PrintLast Go.Proofs.YtodldpdnhcafpaaW.PrintMore
open Go.Proofs.Ytodldpdnhcafpaa.F
attribute [local go_sem] max2_int min2_int max_two min_two
set_option linter.unusedVariables false
set_option linter.unusedSimpArgs false

/-- One kid y of a node nd: is all good so far, and where the next one may begin. -/
def vstep (nd y : S47) (good : Bool) (a : Int) : Bool × Int :=
  if y.f1 = y.f2 then (good && decide (nd.f1 ≤ y.f1), a) else (good && decide (a ≤ y.f1) && decide (y.f2 ≤ nd.f2), mx a y.f2)
set_option maxHeartbeats 8000000 in
set_option maxRecDepth 100000 in
theorem valid1.calls (x : Int) (l : List S47) (A : Option Addr) (c : Nat) (nd : S47) (good : Bool) (a : Int) (gt gg gx ga : Nat) (w0 w : World)
    (ht : w.heap[gt]? = some (.cells #[.slice A l.length c] 25 (0, 0))) (hg : w.heap[gg]? = some (.cells #[.bool good] 4 (0, 0))) (hx : w.heap[gx]? = some (.cells #[.int .u8 nd.f0, .int .i64 nd.f1, .int .i64 nd.f2, .int .i64 nd.f3] 47 (0, 0))) (ha : w.heap[ga]? = some (.cells #[.int .i64 a] 3 (0, 0)))
    (hr : Kd.C k47 w A l.length l) (h0 : 0 ≤ x) (h1 : x < (l.length : Int)) (hW : Below w0.heap.size w0 w) (hgg : w0.heap.size ≤ gg) (hga : w0.heap.size ≤ ga) :
    Calls Try.prog 61 #[.int .i64 x, .pointer (some ⟨gt, 0, none⟩), .pointer (some ⟨gg, 0, none⟩), .pointer (some ⟨gx, 0, none⟩), .pointer (some ⟨ga, 0, none⟩)] w fun e w' => (∃ v, e = .returned v) ∧
      w'.heap[gg]? = some (.cells #[.bool (vstep nd (rd_T47 l x) good a).1] 4 (0, 0)) ∧ w'.heap[ga]? = some (.cells #[.int .i64 (vstep nd (rd_T47 l x) good a).2] 3 (0, 0)) ∧ (∀ k, k < w.heap.size → k ≠ gg → k ≠ ga → w'.heap[k]? = w.heap[k]?) ∧ Below w0.heap.size w0 w' := by
  obtain ⟨ad, e2, hx0, hx1, hx2, hx3⟩ := at_T47 hr x h0 h1
  subst e2
  obtain ⟨y, hy⟩ : ∃ y, rd_T47 l x = y := ⟨_, rfl⟩
  rw [hy] at hx0 hx1 hx2 hx3 ⊢
  clear hy hr
  have ct : w.cell? ⟨gt, 0, none⟩ = some (.slice (some ad) l.length c) := (blk_cell ht 0).trans rfl
  have h0b : decide (0 ≤ x) = true := decide_eq_true h0
  have h1b : decide (x < (l.length : Int)) = true := decide_eq_true h1
  replace h0 := eq_true h0
  replace h1 := eq_true h1
  have ngg := blk_ne hg ha (by decide)
  have HT := Aside0.mk ht
  have HG := Aside0.mk hg
  have HX := Aside0.mk hx
  have HA := Aside0.mk ha
  have HW := Aside0.mk hW
  have GG := Aside0.mk hgg
  have GA := Aside0.mk hga
  have NGA := Aside0.mk ngg
  clear ht hg hx ha hW hgg hga ngg
  have LB0 : Below w.heap.size w (w.alloc (.cells #[.int .u8 y.f0, .int .i64 y.f1, .int .i64 y.f2, .int .i64 y.f3] 47)) := below_alloc (Below.refl _ _) _
  have LG := Aside0.mk (blk_below HG.out LB0)
  have LX := Aside0.mk (blk_below HX.out LB0)
  have LA := Aside0.mk (blk_below HA.out LB0)
  have L6 := Aside0.mk (heap_alloc_new w (.cells #[.int .u8 y.f0, .int .i64 y.f1, .int .i64 y.f2, .int .i64 y.f3] 47))
  have LW := Aside0.mk (show Below w0.heap.size w0 (w.alloc (.cells #[.int .u8 y.f0, .int .i64 y.f1, .int .i64 y.f2, .int .i64 y.f3] 47)) from below_step HW.out LB0)
  have LB := Aside0.mk (show ∀ k, k < w.heap.size → (w.alloc (.cells #[.int .u8 y.f0, .int .i64 y.f1, .int .i64 y.f2, .int .i64 y.f3] 47)).heap[k]? = w.heap[k]? from fun k hk => LB0.block k hk)
  have E2 := Aside0.mk (show gg ≠ w.heap.size from Nat.ne_of_lt (blk_lt HG.out))
  clear LB0
  have cg : (w.alloc (.cells #[.int .u8 y.f0, .int .i64 y.f1, .int .i64 y.f2, .int .i64 y.f3] 47)).cell? ⟨gg, 0, none⟩ = some (.bool good) := (blk_cell LG.out 0).trans rfl
  have fg := blk_frozen LG.out 0
  have cx1 : (w.alloc (.cells #[.int .u8 y.f0, .int .i64 y.f1, .int .i64 y.f2, .int .i64 y.f3] 47)).cell? ⟨gx, 1, none⟩ = some (.int .i64 nd.f1) := (blk_cell LX.out 1).trans rfl
  have cx2 : (w.alloc (.cells #[.int .u8 y.f0, .int .i64 y.f1, .int .i64 y.f2, .int .i64 y.f3] 47)).cell? ⟨gx, 2, none⟩ = some (.int .i64 nd.f2) := (blk_cell LX.out 2).trans rfl
  have ca : (w.alloc (.cells #[.int .u8 y.f0, .int .i64 y.f1, .int .i64 y.f2, .int .i64 y.f3] 47)).cell? ⟨ga, 0, none⟩ = some (.int .i64 a) := (blk_cell LA.out 0).trans rfl
  have fa := blk_frozen LA.out 0
  by_cases k1 : y.f1 = y.f2
  · have k1b : (y.f1 == y.f2) = true := beq_iff_eq.mpr k1
    have hv : vstep nd y good a = (good && decide (nd.f1 ≤ y.f1), a) := by unfold vstep; rw [if_pos k1]
    rw [hv]
    clear hv k1
    cases good with
    | false =>
      rw [Bool.false_and]
      go_enter Try.func61, Try.ntmps61
      go_wp2
      first | go_end0 | ((try simp only [Exit.inBlock, Exit.then]); refine bodyPost_ret (results_none rfl _ _ _) rfl ?_)
      exact ⟨⟨_, rfl⟩, blk_put LG.out 0 _ rfl, blk_far (p := ⟨gg, 0, none⟩) LA.out NGA.out.symm _, fun k hk h1 h2 => (Below.heap_setCell _ _ _ _ h1).trans (LB.out k hk), below_set LW.out GG.out⟩
    | true =>
      rw [Bool.true_and]
      by_cases k2 : nd.f1 ≤ y.f1
      · have k2b : decide (nd.f1 ≤ y.f1) = true := decide_eq_true k2
        rw [k2b]
        clear k2
        go_enter Try.func61, Try.ntmps61
        go_wp2
        first | go_end0 | ((try simp only [Exit.inBlock, Exit.then]); refine bodyPost_ret (results_none rfl _ _ _) rfl ?_)
        exact ⟨⟨_, rfl⟩, blk_put LG.out 0 _ rfl, blk_far (p := ⟨gg, 0, none⟩) LA.out NGA.out.symm _, fun k hk h1 h2 => (Below.heap_setCell _ _ _ _ h1).trans (LB.out k hk), below_set LW.out GG.out⟩
      · have k2b : decide (nd.f1 ≤ y.f1) = false := decide_eq_false k2
        rw [k2b]
        clear k2
        go_enter Try.func61, Try.ntmps61
        go_wp2
        first | go_end0 | ((try simp only [Exit.inBlock, Exit.then]); refine bodyPost_ret (results_none rfl _ _ _) rfl ?_)
        exact ⟨⟨_, rfl⟩, blk_put LG.out 0 _ rfl, blk_far (p := ⟨gg, 0, none⟩) LA.out NGA.out.symm _, fun k hk h1 h2 => (Below.heap_setCell _ _ _ _ h1).trans (LB.out k hk), below_set LW.out GG.out⟩
  · have k1b : (y.f1 == y.f2) = false := beq_eq_false_iff_ne.mpr k1
    have hv : vstep nd y good a = (good && decide (a ≤ y.f1) && decide (y.f2 ≤ nd.f2), mx a y.f2) := by unfold vstep; rw [if_neg k1]
    rw [hv]
    clear hv k1
    by_cases k5 : a < y.f2
    · have k5b : decide (a < y.f2) = true := decide_eq_true k5
      have hm : mx a y.f2 = y.f2 := by unfold mx; rw [if_pos k5]
      rw [hm]
      clear hm
      replace k5 := eq_true k5
      cases good with
      | false =>
        rw [Bool.false_and, Bool.false_and]
        have MA := Aside0.mk (show ((w.alloc (.cells #[.int .u8 y.f0, .int .i64 y.f1, .int .i64 y.f2, .int .i64 y.f3] 47)).setCell ⟨gg, 0, none⟩ (.bool false)).heap[ga]? = _ from blk_far (p := ⟨gg, 0, none⟩) LA.out NGA.out.symm _)
        have M6 := Aside0.mk (show ((w.alloc (.cells #[.int .u8 y.f0, .int .i64 y.f1, .int .i64 y.f2, .int .i64 y.f3] 47)).setCell ⟨gg, 0, none⟩ (.bool false)).heap[w.heap.size]? = _ from blk_far (p := ⟨gg, 0, none⟩) L6.out E2.out.symm _)
        have MG := Aside0.mk (show ((w.alloc (.cells #[.int .u8 y.f0, .int .i64 y.f1, .int .i64 y.f2, .int .i64 y.f3] 47)).setCell ⟨gg, 0, none⟩ (.bool false)).heap[gg]? = some (.cells #[.bool false] 4 (0, 0)) from blk_put LG.out 0 _ rfl)
        have ca2 : ((w.alloc (.cells #[.int .u8 y.f0, .int .i64 y.f1, .int .i64 y.f2, .int .i64 y.f3] 47)).setCell ⟨gg, 0, none⟩ (.bool false)).cell? ⟨ga, 0, none⟩ = some (.int .i64 a) := (blk_cell MA.out 0).trans rfl
        have fa2 := blk_frozen MA.out 0
        have c62 : ((w.alloc (.cells #[.int .u8 y.f0, .int .i64 y.f1, .int .i64 y.f2, .int .i64 y.f3] 47)).setCell ⟨gg, 0, none⟩ (.bool false)).cell? ⟨w.heap.size, 2, none⟩ = some (.int .i64 y.f2) := (blk_cell M6.out 2).trans rfl
        go_enter Try.func61, Try.ntmps61
        go_wp2
        first | go_end0 | ((try simp only [Exit.inBlock, Exit.then]); refine bodyPost_ret (results_none rfl _ _ _) rfl ?_)
        exact ⟨⟨_, rfl⟩, blk_far (p := ⟨ga, 0, none⟩) MG.out NGA.out _, blk_put MA.out 0 _ rfl, fun k hk h1 h2 => (Below.heap_setCell _ _ _ _ h2).trans ((Below.heap_setCell _ _ _ _ h1).trans (LB.out k hk)), below_set (below_set LW.out GG.out) GA.out⟩
      | true =>
        rw [Bool.true_and]
        by_cases k2 : a ≤ y.f1
        · have k2b : decide (a ≤ y.f1) = true := decide_eq_true k2
          rw [k2b, Bool.true_and]
          clear k2
          by_cases k3 : y.f2 ≤ nd.f2
          · have k3b : decide (y.f2 ≤ nd.f2) = true := decide_eq_true k3
            rw [k3b]
            clear k3
            have MA := Aside0.mk (show ((w.alloc (.cells #[.int .u8 y.f0, .int .i64 y.f1, .int .i64 y.f2, .int .i64 y.f3] 47)).setCell ⟨gg, 0, none⟩ (.bool true)).heap[ga]? = _ from blk_far (p := ⟨gg, 0, none⟩) LA.out NGA.out.symm _)
            have M6 := Aside0.mk (show ((w.alloc (.cells #[.int .u8 y.f0, .int .i64 y.f1, .int .i64 y.f2, .int .i64 y.f3] 47)).setCell ⟨gg, 0, none⟩ (.bool true)).heap[w.heap.size]? = _ from blk_far (p := ⟨gg, 0, none⟩) L6.out E2.out.symm _)
            have MG := Aside0.mk (show ((w.alloc (.cells #[.int .u8 y.f0, .int .i64 y.f1, .int .i64 y.f2, .int .i64 y.f3] 47)).setCell ⟨gg, 0, none⟩ (.bool true)).heap[gg]? = some (.cells #[.bool true] 4 (0, 0)) from blk_put LG.out 0 _ rfl)
            have ca2 : ((w.alloc (.cells #[.int .u8 y.f0, .int .i64 y.f1, .int .i64 y.f2, .int .i64 y.f3] 47)).setCell ⟨gg, 0, none⟩ (.bool true)).cell? ⟨ga, 0, none⟩ = some (.int .i64 a) := (blk_cell MA.out 0).trans rfl
            have fa2 := blk_frozen MA.out 0
            have c62 : ((w.alloc (.cells #[.int .u8 y.f0, .int .i64 y.f1, .int .i64 y.f2, .int .i64 y.f3] 47)).setCell ⟨gg, 0, none⟩ (.bool true)).cell? ⟨w.heap.size, 2, none⟩ = some (.int .i64 y.f2) := (blk_cell M6.out 2).trans rfl
            go_enter Try.func61, Try.ntmps61
            go_wp2
            first | go_end0 | ((try simp only [Exit.inBlock, Exit.then]); refine bodyPost_ret (results_none rfl _ _ _) rfl ?_)
            exact ⟨⟨_, rfl⟩, blk_far (p := ⟨ga, 0, none⟩) MG.out NGA.out _, blk_put MA.out 0 _ rfl, fun k hk h1 h2 => (Below.heap_setCell _ _ _ _ h2).trans ((Below.heap_setCell _ _ _ _ h1).trans (LB.out k hk)), below_set (below_set LW.out GG.out) GA.out⟩
          · have k3b : decide (y.f2 ≤ nd.f2) = false := decide_eq_false k3
            rw [k3b]
            clear k3
            have MA := Aside0.mk (show ((w.alloc (.cells #[.int .u8 y.f0, .int .i64 y.f1, .int .i64 y.f2, .int .i64 y.f3] 47)).setCell ⟨gg, 0, none⟩ (.bool false)).heap[ga]? = _ from blk_far (p := ⟨gg, 0, none⟩) LA.out NGA.out.symm _)
            have M6 := Aside0.mk (show ((w.alloc (.cells #[.int .u8 y.f0, .int .i64 y.f1, .int .i64 y.f2, .int .i64 y.f3] 47)).setCell ⟨gg, 0, none⟩ (.bool false)).heap[w.heap.size]? = _ from blk_far (p := ⟨gg, 0, none⟩) L6.out E2.out.symm _)
            have MG := Aside0.mk (show ((w.alloc (.cells #[.int .u8 y.f0, .int .i64 y.f1, .int .i64 y.f2, .int .i64 y.f3] 47)).setCell ⟨gg, 0, none⟩ (.bool false)).heap[gg]? = some (.cells #[.bool false] 4 (0, 0)) from blk_put LG.out 0 _ rfl)
            have ca2 : ((w.alloc (.cells #[.int .u8 y.f0, .int .i64 y.f1, .int .i64 y.f2, .int .i64 y.f3] 47)).setCell ⟨gg, 0, none⟩ (.bool false)).cell? ⟨ga, 0, none⟩ = some (.int .i64 a) := (blk_cell MA.out 0).trans rfl
            have fa2 := blk_frozen MA.out 0
            have c62 : ((w.alloc (.cells #[.int .u8 y.f0, .int .i64 y.f1, .int .i64 y.f2, .int .i64 y.f3] 47)).setCell ⟨gg, 0, none⟩ (.bool false)).cell? ⟨w.heap.size, 2, none⟩ = some (.int .i64 y.f2) := (blk_cell M6.out 2).trans rfl
            go_enter Try.func61, Try.ntmps61
            go_wp2
            first | go_end0 | ((try simp only [Exit.inBlock, Exit.then]); refine bodyPost_ret (results_none rfl _ _ _) rfl ?_)
            exact ⟨⟨_, rfl⟩, blk_far (p := ⟨ga, 0, none⟩) MG.out NGA.out _, blk_put MA.out 0 _ rfl, fun k hk h1 h2 => (Below.heap_setCell _ _ _ _ h2).trans ((Below.heap_setCell _ _ _ _ h1).trans (LB.out k hk)), below_set (below_set LW.out GG.out) GA.out⟩
        · have k2b : decide (a ≤ y.f1) = false := decide_eq_false k2
          rw [k2b, Bool.false_and]
          clear k2
          have MA := Aside0.mk (show ((w.alloc (.cells #[.int .u8 y.f0, .int .i64 y.f1, .int .i64 y.f2, .int .i64 y.f3] 47)).setCell ⟨gg, 0, none⟩ (.bool false)).heap[ga]? = _ from blk_far (p := ⟨gg, 0, none⟩) LA.out NGA.out.symm _)
          have M6 := Aside0.mk (show ((w.alloc (.cells #[.int .u8 y.f0, .int .i64 y.f1, .int .i64 y.f2, .int .i64 y.f3] 47)).setCell ⟨gg, 0, none⟩ (.bool false)).heap[w.heap.size]? = _ from blk_far (p := ⟨gg, 0, none⟩) L6.out E2.out.symm _)
          have MG := Aside0.mk (show ((w.alloc (.cells #[.int .u8 y.f0, .int .i64 y.f1, .int .i64 y.f2, .int .i64 y.f3] 47)).setCell ⟨gg, 0, none⟩ (.bool false)).heap[gg]? = some (.cells #[.bool false] 4 (0, 0)) from blk_put LG.out 0 _ rfl)
          have ca2 : ((w.alloc (.cells #[.int .u8 y.f0, .int .i64 y.f1, .int .i64 y.f2, .int .i64 y.f3] 47)).setCell ⟨gg, 0, none⟩ (.bool false)).cell? ⟨ga, 0, none⟩ = some (.int .i64 a) := (blk_cell MA.out 0).trans rfl
          have fa2 := blk_frozen MA.out 0
          have c62 : ((w.alloc (.cells #[.int .u8 y.f0, .int .i64 y.f1, .int .i64 y.f2, .int .i64 y.f3] 47)).setCell ⟨gg, 0, none⟩ (.bool false)).cell? ⟨w.heap.size, 2, none⟩ = some (.int .i64 y.f2) := (blk_cell M6.out 2).trans rfl
          go_enter Try.func61, Try.ntmps61
          go_wp2
          first | go_end0 | ((try simp only [Exit.inBlock, Exit.then]); refine bodyPost_ret (results_none rfl _ _ _) rfl ?_)
          exact ⟨⟨_, rfl⟩, blk_far (p := ⟨ga, 0, none⟩) MG.out NGA.out _, blk_put MA.out 0 _ rfl, fun k hk h1 h2 => (Below.heap_setCell _ _ _ _ h2).trans ((Below.heap_setCell _ _ _ _ h1).trans (LB.out k hk)), below_set (below_set LW.out GG.out) GA.out⟩
    · have k5b : decide (a < y.f2) = false := decide_eq_false k5
      have hm : mx a y.f2 = a := by unfold mx; rw [if_neg k5]
      rw [hm]
      clear hm
      replace k5 := eq_false k5
      cases good with
      | false =>
        rw [Bool.false_and, Bool.false_and]
        have MA := Aside0.mk (show ((w.alloc (.cells #[.int .u8 y.f0, .int .i64 y.f1, .int .i64 y.f2, .int .i64 y.f3] 47)).setCell ⟨gg, 0, none⟩ (.bool false)).heap[ga]? = _ from blk_far (p := ⟨gg, 0, none⟩) LA.out NGA.out.symm _)
        have M6 := Aside0.mk (show ((w.alloc (.cells #[.int .u8 y.f0, .int .i64 y.f1, .int .i64 y.f2, .int .i64 y.f3] 47)).setCell ⟨gg, 0, none⟩ (.bool false)).heap[w.heap.size]? = _ from blk_far (p := ⟨gg, 0, none⟩) L6.out E2.out.symm _)
        have MG := Aside0.mk (show ((w.alloc (.cells #[.int .u8 y.f0, .int .i64 y.f1, .int .i64 y.f2, .int .i64 y.f3] 47)).setCell ⟨gg, 0, none⟩ (.bool false)).heap[gg]? = some (.cells #[.bool false] 4 (0, 0)) from blk_put LG.out 0 _ rfl)
        have ca2 : ((w.alloc (.cells #[.int .u8 y.f0, .int .i64 y.f1, .int .i64 y.f2, .int .i64 y.f3] 47)).setCell ⟨gg, 0, none⟩ (.bool false)).cell? ⟨ga, 0, none⟩ = some (.int .i64 a) := (blk_cell MA.out 0).trans rfl
        have fa2 := blk_frozen MA.out 0
        have c62 : ((w.alloc (.cells #[.int .u8 y.f0, .int .i64 y.f1, .int .i64 y.f2, .int .i64 y.f3] 47)).setCell ⟨gg, 0, none⟩ (.bool false)).cell? ⟨w.heap.size, 2, none⟩ = some (.int .i64 y.f2) := (blk_cell M6.out 2).trans rfl
        go_enter Try.func61, Try.ntmps61
        go_wp2
        first | go_end0 | ((try simp only [Exit.inBlock, Exit.then]); refine bodyPost_ret (results_none rfl _ _ _) rfl ?_)
        exact ⟨⟨_, rfl⟩, blk_far (p := ⟨ga, 0, none⟩) MG.out NGA.out _, blk_put MA.out 0 _ rfl, fun k hk h1 h2 => (Below.heap_setCell _ _ _ _ h2).trans ((Below.heap_setCell _ _ _ _ h1).trans (LB.out k hk)), below_set (below_set LW.out GG.out) GA.out⟩
      | true =>
        rw [Bool.true_and]
        by_cases k2 : a ≤ y.f1
        · have k2b : decide (a ≤ y.f1) = true := decide_eq_true k2
          rw [k2b, Bool.true_and]
          clear k2
          by_cases k3 : y.f2 ≤ nd.f2
          · have k3b : decide (y.f2 ≤ nd.f2) = true := decide_eq_true k3
            rw [k3b]
            clear k3
            have MA := Aside0.mk (show ((w.alloc (.cells #[.int .u8 y.f0, .int .i64 y.f1, .int .i64 y.f2, .int .i64 y.f3] 47)).setCell ⟨gg, 0, none⟩ (.bool true)).heap[ga]? = _ from blk_far (p := ⟨gg, 0, none⟩) LA.out NGA.out.symm _)
            have M6 := Aside0.mk (show ((w.alloc (.cells #[.int .u8 y.f0, .int .i64 y.f1, .int .i64 y.f2, .int .i64 y.f3] 47)).setCell ⟨gg, 0, none⟩ (.bool true)).heap[w.heap.size]? = _ from blk_far (p := ⟨gg, 0, none⟩) L6.out E2.out.symm _)
            have MG := Aside0.mk (show ((w.alloc (.cells #[.int .u8 y.f0, .int .i64 y.f1, .int .i64 y.f2, .int .i64 y.f3] 47)).setCell ⟨gg, 0, none⟩ (.bool true)).heap[gg]? = some (.cells #[.bool true] 4 (0, 0)) from blk_put LG.out 0 _ rfl)
            have ca2 : ((w.alloc (.cells #[.int .u8 y.f0, .int .i64 y.f1, .int .i64 y.f2, .int .i64 y.f3] 47)).setCell ⟨gg, 0, none⟩ (.bool true)).cell? ⟨ga, 0, none⟩ = some (.int .i64 a) := (blk_cell MA.out 0).trans rfl
            have fa2 := blk_frozen MA.out 0
            have c62 : ((w.alloc (.cells #[.int .u8 y.f0, .int .i64 y.f1, .int .i64 y.f2, .int .i64 y.f3] 47)).setCell ⟨gg, 0, none⟩ (.bool true)).cell? ⟨w.heap.size, 2, none⟩ = some (.int .i64 y.f2) := (blk_cell M6.out 2).trans rfl
            go_enter Try.func61, Try.ntmps61
            go_wp2
            first | go_end0 | ((try simp only [Exit.inBlock, Exit.then]); refine bodyPost_ret (results_none rfl _ _ _) rfl ?_)
            exact ⟨⟨_, rfl⟩, blk_far (p := ⟨ga, 0, none⟩) MG.out NGA.out _, blk_put MA.out 0 _ rfl, fun k hk h1 h2 => (Below.heap_setCell _ _ _ _ h2).trans ((Below.heap_setCell _ _ _ _ h1).trans (LB.out k hk)), below_set (below_set LW.out GG.out) GA.out⟩
          · have k3b : decide (y.f2 ≤ nd.f2) = false := decide_eq_false k3
            rw [k3b]
            clear k3
            have MA := Aside0.mk (show ((w.alloc (.cells #[.int .u8 y.f0, .int .i64 y.f1, .int .i64 y.f2, .int .i64 y.f3] 47)).setCell ⟨gg, 0, none⟩ (.bool false)).heap[ga]? = _ from blk_far (p := ⟨gg, 0, none⟩) LA.out NGA.out.symm _)
            have M6 := Aside0.mk (show ((w.alloc (.cells #[.int .u8 y.f0, .int .i64 y.f1, .int .i64 y.f2, .int .i64 y.f3] 47)).setCell ⟨gg, 0, none⟩ (.bool false)).heap[w.heap.size]? = _ from blk_far (p := ⟨gg, 0, none⟩) L6.out E2.out.symm _)
            have MG := Aside0.mk (show ((w.alloc (.cells #[.int .u8 y.f0, .int .i64 y.f1, .int .i64 y.f2, .int .i64 y.f3] 47)).setCell ⟨gg, 0, none⟩ (.bool false)).heap[gg]? = some (.cells #[.bool false] 4 (0, 0)) from blk_put LG.out 0 _ rfl)
            have ca2 : ((w.alloc (.cells #[.int .u8 y.f0, .int .i64 y.f1, .int .i64 y.f2, .int .i64 y.f3] 47)).setCell ⟨gg, 0, none⟩ (.bool false)).cell? ⟨ga, 0, none⟩ = some (.int .i64 a) := (blk_cell MA.out 0).trans rfl
            have fa2 := blk_frozen MA.out 0
            have c62 : ((w.alloc (.cells #[.int .u8 y.f0, .int .i64 y.f1, .int .i64 y.f2, .int .i64 y.f3] 47)).setCell ⟨gg, 0, none⟩ (.bool false)).cell? ⟨w.heap.size, 2, none⟩ = some (.int .i64 y.f2) := (blk_cell M6.out 2).trans rfl
            go_enter Try.func61, Try.ntmps61
            go_wp2
            first | go_end0 | ((try simp only [Exit.inBlock, Exit.then]); refine bodyPost_ret (results_none rfl _ _ _) rfl ?_)
            exact ⟨⟨_, rfl⟩, blk_far (p := ⟨ga, 0, none⟩) MG.out NGA.out _, blk_put MA.out 0 _ rfl, fun k hk h1 h2 => (Below.heap_setCell _ _ _ _ h2).trans ((Below.heap_setCell _ _ _ _ h1).trans (LB.out k hk)), below_set (below_set LW.out GG.out) GA.out⟩
        · have k2b : decide (a ≤ y.f1) = false := decide_eq_false k2
          rw [k2b, Bool.false_and]
          clear k2
          have MA := Aside0.mk (show ((w.alloc (.cells #[.int .u8 y.f0, .int .i64 y.f1, .int .i64 y.f2, .int .i64 y.f3] 47)).setCell ⟨gg, 0, none⟩ (.bool false)).heap[ga]? = _ from blk_far (p := ⟨gg, 0, none⟩) LA.out NGA.out.symm _)
          have M6 := Aside0.mk (show ((w.alloc (.cells #[.int .u8 y.f0, .int .i64 y.f1, .int .i64 y.f2, .int .i64 y.f3] 47)).setCell ⟨gg, 0, none⟩ (.bool false)).heap[w.heap.size]? = _ from blk_far (p := ⟨gg, 0, none⟩) L6.out E2.out.symm _)
          have MG := Aside0.mk (show ((w.alloc (.cells #[.int .u8 y.f0, .int .i64 y.f1, .int .i64 y.f2, .int .i64 y.f3] 47)).setCell ⟨gg, 0, none⟩ (.bool false)).heap[gg]? = some (.cells #[.bool false] 4 (0, 0)) from blk_put LG.out 0 _ rfl)
          have ca2 : ((w.alloc (.cells #[.int .u8 y.f0, .int .i64 y.f1, .int .i64 y.f2, .int .i64 y.f3] 47)).setCell ⟨gg, 0, none⟩ (.bool false)).cell? ⟨ga, 0, none⟩ = some (.int .i64 a) := (blk_cell MA.out 0).trans rfl
          have fa2 := blk_frozen MA.out 0
          have c62 : ((w.alloc (.cells #[.int .u8 y.f0, .int .i64 y.f1, .int .i64 y.f2, .int .i64 y.f3] 47)).setCell ⟨gg, 0, none⟩ (.bool false)).cell? ⟨w.heap.size, 2, none⟩ = some (.int .i64 y.f2) := (blk_cell M6.out 2).trans rfl
          go_enter Try.func61, Try.ntmps61
          go_wp2
          first | go_end0 | ((try simp only [Exit.inBlock, Exit.then]); refine bodyPost_ret (results_none rfl _ _ _) rfl ?_)
          exact ⟨⟨_, rfl⟩, blk_far (p := ⟨ga, 0, none⟩) MG.out NGA.out _, blk_put MA.out 0 _ rfl, fun k hk h1 h2 => (Below.heap_setCell _ _ _ _ h2).trans ((Below.heap_setCell _ _ _ _ h1).trans (LB.out k hk)), below_set (below_set LW.out GG.out) GA.out⟩
end Go.Proofs.Ytodldpdnhcafpaa.K

-- Plain walks of regions serve in a round of a loop over an iterator (the wide fence): operation for operation.
namespace Go.Proofs.Ytodldpdnhcafpaa.K
open Go.RowKit Go.Proofs.YtodldpdnhcafpaaW.PrintWords Go.Proofs.YtodldpdnhcafpaaW.PrintLast Go.Proofs.YtodldpdnhcafpaaW.PrintMore

def noDefer (o : Oper) : Bool := match o.op with | .defer _ => false | _ => true

section
variable {P : Program} {ops : Array Oper} {Q : Exit → Act → World → Prop} {n lp : Nat}

theorem rows_bridge {row : String} {args : Array Value} {w : World} {R : Value → World → Prop} (h : Rows P row args w R) : RowsIn (Fence.wide.inRound lp) n P row args w R :=
  fun c cs _ => let ⟨v, w', r, s⟩ := h c cs; ⟨v, w', r, by rw [fenced_inRound]; exact stepsIn_wide.2 s⟩

/-- No way out by growing. -/
def noOut (Q : Exit → Act → World → Prop) : Exit → Act → World → Prop
  | .outgrown, _, _ => False
  | e, a, w => Q e a w
theorem noOut_normal {a : Act} {w : World} : noOut Q .normal a w = Q .normal a w := rfl
theorem noOut_lets : ¬ LetsOut (noOut Q) := fun ⟨_, _, h⟩ => h

theorem oper_bridge {o : Oper} (hd : noDefer o = true) {a : Act} {w : World} {K : Act → World → Prop} (h : o.wp P a w K (noOut Q)) : o.wpIn (Fence.wide.inRound lp) n P a w K Q := by
  refine ⟨fun _ _ => trivial, ?_⟩
  have he : o.semAt (Fence.wide.inRound lp).round a.eval = execOp a.eval o :=
    Oper.semAt_some lp a.eval o (by intro c hc; simp [noDefer, hc] at hd)
  rw [he]
  unfold Oper.wp at h
  have hdep : (Fence.wide.inRound lp).depth.isSome = true → 1 ≤ n := fun h => by simp [Fence.wide] at h
  generalize (execOp a.eval o).run P w = r at *
  cases r with
  | ok x w' =>
    cases x <;> simp only [Oper.upon, Oper.uponIn] at h ⊢ <;>
      first
        | exact h
        | exact ⟨hdep, CallsIn.inRound _ (callsIn_wide.2 (Calls.mono h (fun e w' he => by cases e <;> first | exact he | exact absurd he noOut_lets)))⟩
        | exact ⟨hdep, rows_bridge h⟩
  | halt x w' => cases x <;> simp only [Oper.upon, Oper.uponIn] at h ⊢ <;> exact h

theorem list_bridge : ∀ (l : List Oper), l.all noDefer = true → ∀ a w, wpList P ops (noOut Q) l a w → wpListIn (Fence.wide.inRound lp) n P ops Q l a w
  | [], _, _, _, h => h
  | o :: rest, hd, a, w, h => by
    simp only [List.all_cons, Bool.and_eq_true] at hd
    unfold wpList at h
    unfold wpListIn
    split at h
    · rename_i hw
      rw [if_pos hw]
      rcases h with h | h
      · exact oper_bridge hd.1 (Oper.wp_mono (fun a w => list_bridge rest hd.2 a w) h)
      · exact absurd h.2 noOut_lets
    · rename_i hw
      rw [if_neg hw]
      exact ⟨fun _ _ => trivial, list_bridge rest hd.2 _ _ h⟩

theorem op_bridge (hd : ∀ o ∈ ops, noDefer o = true) {i : Nat} {K : Act → World → Prop} {a : Act} {w : World} (h : wpOp P ops (noOut Q) i K a w) : wpOpIn (Fence.wide.inRound lp) n P ops Q i K a w := by
  unfold wpOp at h
  unfold wpOpIn
  split at h
  · rename_i ho
    simp only [ho]
    exact h
  · rename_i o ho
    simp only [ho]
    split at h
    · rename_i hw
      rw [if_pos hw]
      rcases h with h | h
      · exact oper_bridge (hd o (Array.mem_of_getElem? ho)) h
      · exact absurd h.2 noOut_lets
    · rename_i hw
      rw [if_neg hw]
      exact ⟨fun _ _ => trivial, h⟩

theorem any_bridge {md : Region.Mode} (hd : ∀ o ∈ ops, noDefer o = true) : ∀ (fuel : Nat) (listed : Array Bool) (a : Act) (w : World), wpAny P md ops (noOut Q) fuel listed a w → wpAnyIn (Fence.wide.inRound lp) n P md ops Q fuel listed a w
  | 0, _, _, _, h => h
  | fuel + 1, _, _, _, h => ⟨h.1, fun i hi => wpOpIn_mono (fun a w => any_bridge hd fuel _ a w) (op_bridge hd (h.2 i hi))⟩

/-- A region that draws its order and only reads. -/
theorem quiet_in {id : Nat} {a : Act} {w : World} {l : List Oper} (hd : l.all noDefer = true) (hm : P.follows .mixedOrders = true) (hB : Region.lexB .any l.toArray = true)
    (h : wpQuiet P l.toArray (fun w' => ∃ n, w' = w.drewN n) (fun a' => ∀ w', (∃ n, w' = w.drewN n) → Q .normal a' w') l a) : (Code.region id l.toArray true).wpIn (Fence.wide.inRound lp) n P Q a w := by
  have hB' := hB
  simp only [Region.lexB, Bool.and_eq_true] at hB'
  refine wpIn_region_any hm (any_bridge (fun o ho => List.all_eq_true.1 hd o (by simpa using ho)) _ _ _ _ ?_)
  refine wpAny_of_quiet (C := fun w' => ∃ n, w' = w.drewN n) (Q := fun a' => ∀ w', (∃ n, w' = w.drewN n) → Q .normal a' w') (show ∀ (a' : Act) (w' : World), (∃ n, w' = w.drewN n) → (∀ w', (∃ n, w' = w.drewN n) → Q .normal a' w') → noOut Q .normal a' w' from fun _ w' hw' h => h w' hw') _ _ _ _ ⟨1, rfl⟩ ?_
  have := wpAnyQ_lex (C := fun w' => ∃ n, w' = w.drewN n) (md := .any) hB'.1 l 0 (Array.replicate l.toArray.size false) a (by simp) (by simpa using hB'.2) h
  simpa using this
end

/-- A loop's code by a name; what is asked behind by a name. -/
theorem name_loop {P : Program} {c : Code} {Q : Exit → Act → World → Prop} {a : Act} {w : World} (h : ∀ L, c = L → (Code.loop L).wp P Q a w) : (Code.loop c).wp P Q a w := h c rfl
theorem name_post {P : Program} {c : Code} {Q : Exit → Act → World → Prop} {a : Act} {w : World} (h : ∀ Q', Q = Q' → c.wp P Q' a w) : c.wp P Q a w := h Q rfl

/-- What lies in blocks of cells abides the turn of a block that is none. -/
theorem R_own {α : Type} {d : Kd α} {e : Nat} {A B : World} {base : Nat} {ok : Nat → Prop} {v : Value} {xs : List α} {row : Option Nat} (h : d.R e A base ok v xs) (hg : A.grownBy B row)
    (hr : ∀ r, row = some r → ∃ o : Obj, A.heap[r]? = some o ∧ o.isCells = false) : d.R e B base ok v xs :=
  Kd.R_mono (Kd.R_step (Kd.R_bound h) (fun k ⟨_, _, hlt, q, _, cells, hk⟩ hlt' => hg.block k hlt' (fun e' => by
    obtain ⟨_, ho, hc⟩ := hr k e'.symm
    rw [hk] at ho
    cases ho
    cases hc))) (fun _ hk => hk.1)
theorem blk_own {A B : World} {row : Option Nat} {b t : Nat} {cs : Array Value} {d : Nat × Nat} (h : A.heap[b]? = some (.cells cs t d)) (hg : A.grownBy B row)
    (hr : ∀ r, row = some r → ∃ o : Obj, A.heap[r]? = some o ∧ o.isCells = false) : B.heap[b]? = some (.cells cs t d) :=
  (hg.block b (Array.getElem?_eq_some_iff.1 h).1 (fun e' => by
    obtain ⟨_, ho, hc⟩ := hr b e'.symm
    rw [h] at ho
    cases ho
    cases hc)).trans h
/-- What keeps all that lay keeps whatever is no cells. -/
theorem keeps_below {A B : World} (h : Below A.heap.size A B) (b : Nat) : KeepsFrom b A B :=
  ⟨h.size, fun k _ _ hk _ => (h.block k (Array.getElem?_eq_some_iff.1 hk).1).trans hk⟩

/-- A region that draws its order, by the steps of the plain walk. -/
theorem start_in {P : Program} {ops : Array Oper} {Q : Exit → Act → World → Prop} {S : World → Prop} {ds : List Nat} {lp m id n : Nat} {a : Act} {w : World} (hd : ops.toList.all noDefer = true) (l : Array Bool) (hm : P.follows .mixedOrders = true) (hn : ops.size = n) (hl : Array.replicate n false = l) (hS : S w.drew)
    (h : S w.drew → wpAnyLast P .any ops (noOut Q) S ds n l a w.drew) : (Code.region id ops true).wpIn (Fence.wide.inRound lp) m P Q a w := by
  subst hn
  subst hl
  exact wpIn_region_any hm (any_bridge (fun o ho => List.all_eq_true.1 hd o (by simpa using ho)) _ _ _ _ (wpAny_of_last _ _ _ _ (h hS)))

/-- The law of a loop over an iterator of one variable, at the wide fence, between plain walks. -/
theorem rf1 {P : Program} {α : Type} {g : Operand} {p s : Tmp} {assign body : Code} {Q : Exit → Act → World → Prop} {a : Act} {w : World} {gf : Nat} {lb : Array Value}
    (hg : a.eval g = .func (.func gf) #[] lb) (eg : ∀ args w, (callFunc gf args).run P w = .ok (.enter gf args) w)
    {enc : α → Value} {Kp : World → World → Prop} {S Sp : List α → Prop} {N : Nat} (hseq : SeqStopsK Fence.wide 2 P gf lb (fun x => #[enc x]) Kp S Sp N w)
    (hKt : ∀ {A B C : World}, Kp A B → Kp B C → Kp A C) (hKb : ∀ (W : World) (l : Nat) (o o' : Obj), w.heap.size ≤ l → W.heap[l]? = some o → o.isCells = false → o.isWalk = false → Kp W (W.putObj l o'))
    (I : List α → World → Prop) (Ix : Code → List α → World → Prop) (hI : OwnFrom w.heap.size I) (hIx : ∀ c, OwnFrom w.heap.size (Ix c)) (h0 : I [] w)
    (hassign : ∀ (l : Nat) (x : α) (W : World) (K : Act → World → Prop), K { tmps := (a.tmps.setIfInBounds p (enc x)).setIfInBounds s (enc x), defers := [] } W →
      assign.wpIn (Fence.wide.inRound l) 1 P (Exit.then K (fun _ _ _ => False)) { tmps := a.tmps.setIfInBounds p (enc x), defers := [] } W)
    (hbody : ∀ (l : Nat) (pre : List α) (x : α) (W : World), I pre W → pre.length < N → body.wpIn (Fence.wide.inRound l) 1 P (ownPostG w.heap.size Kp I Ix (pre ++ [x]) W) { tmps := (a.tmps.setIfInBounds p (enc x)).setIfInBounds s (enc x), defers := [] } W)
    (hdone : ∀ (D : Nat) (xs : List α) (W : World), w.heap.size ≤ D → S xs → I xs W → W.heap[D]? = some (.deferred (some [])) → Q .normal { a with defers := { target := .collected D, args := #[] } :: a.defers } W)
    (hstop : ∀ (D : Nat) (c : Code) (pre : List α) (W : World), w.heap.size ≤ D → Sp pre → Ix c pre W → W.heap[D]? = some (.deferred (some [])) → c.wp P Q { a with defers := { target := .collected D, args := #[] } :: a.defers } W) :
    (Code.rangeFunc g #[p] assign body).wp P Q a w :=
  (wpIn_wide (n := 3)).1 (wpIn_rangeFunc_ownG (F := Fence.wide) (n := 3) rfl (by omega) hg trivial eg hseq (fun h k => hKt h k) hKb (Below.refl _ _) (fun _ => rfl) I Ix hI hIx h0 _ (fun l x W K hK => by simpa using hassign l x W K hK) hbody hdone
    (fun D c pre W a b c' d => wpIn_wide.2 (hstop D c pre W a b c' d)))

/-- All that lay lies as it lay, but for one box. -/
def KeepB (W0 : World) (g : Nat) (W : World) : Prop := W0.heap.size ≤ W.heap.size ∧ ∀ k, k < W0.heap.size → k ≠ g → W.heap[k]? = W0.heap[k]?
theorem KeepB.refl (W0 : World) (g : Nat) : KeepB W0 g W0 := ⟨Nat.le_refl _, fun _ _ _ => rfl⟩
theorem KeepB.blk {W0 W : World} {g b : Nat} {o : Obj} (h : KeepB W0 g W) (hb : W0.heap[b]? = some o) (hne : b ≠ g) : W.heap[b]? = some o := (h.2 b (blk_lt hb) hne).trans hb
theorem KeepB.R {α : Type} {d : Kd α} {e base g : Nat} {v : Value} {xs : List α} {W0 W : World} (h : KeepB W0 g W) (hR : d.R e W0 base (fun k => k ≠ g) v xs) : d.R e W base (fun k => k ≠ g) v xs :=
  Kd.R_step hR (fun k hk hlt => h.2 k hlt hk)
theorem KeepB.trans {W0 W W' : World} {g : Nat} (h : KeepB W0 g W) (h' : W.heap.size ≤ W'.heap.size) (hk : ∀ k, k < W0.heap.size → k ≠ g → W'.heap[k]? = W.heap[k]?) : KeepB W0 g W' :=
  ⟨Nat.le_trans h.1 h', fun k h1 h2 => (hk k h1 h2).trans (h.2 k h1 h2)⟩
theorem keepB_own {s : Type} (W0 : World) (g : Nat) : OwnFrom W0.heap.size (fun (_ : s) W => KeepB W0 g W) :=
  fun _ A B row h hg hr => h.trans hg.size (fun k hk _ => hg.block k (Nat.lt_of_lt_of_le hk h.1) (fun e => by have := (hr k e.symm).1; omega))
/-- A box that holds a row which has grown since. -/
def BoxR {α : Type} (d : Kd α) (t e : Nat) (g base b0 : Nat) (xs : List α) (W : World) : Prop := ∃ v, W.heap[g]? = some (.cells #[v] t (0, 0)) ∧ d.R e W base (fun k => b0 ≤ k) v xs
theorem boxR_own {α s : Type} {d : Kd α} {t e g base b0 B : Nat} (f : s → List α) : OwnFrom B (fun x W => BoxR d t e g base b0 (f x) W) :=
  fun _ _ _ _ ⟨v, hb, hR⟩ hg hr => ⟨v, blk_own hb hg (fun r e => (hr r e).2), R_own hR hg (fun r e => (hr r e).2)⟩
end Go.Proofs.Ytodldpdnhcafpaa.K

-- tokens (53, 62): the iterator's contract
namespace Go.Proofs.Ytodldpdnhcafpaa.K
open Go.RowKit Go.Shelf Go.Proofs.YtodldpdnhcafpaaW.PrintWords Go.Proofs.YtodldpdnhcafpaaW.PrintLast Go.Proofs.YtodldpdnhcafpaaW.PrintMore
open Go.Proofs.Ytodldpdnhcafpaa.F
attribute [local go_sem] Oper.semAt_some max2_int min2_int max_two min_two
set_option linter.unusedVariables false
set_option linter.unusedSimpArgs false

/-- No blanks, no note. -/
def tokB (l : List S61) (i : Int) : Bool := !decide ((rd_T61 l i).f0 = 0) && !decide ((rd_T61 l i).f0 = 1)
/-- The tokens from a up to b. -/
def tokR (l : List S61) (a b : Int) : List Int := ((List.range (b - a).toNat).map (fun j : Nat => a + (j : Int))).filter (tokB l)
theorem tokR_nil (l : List S61) {a b : Int} (h : b ≤ a) : tokR l a b = [] := by
  have e : (b - a).toNat = 0 := by omega
  unfold tokR
  rw [e]
  rfl
theorem tokR_succ (l : List S61) {a b : Int} (h : a ≤ b) : tokR l a (b + 1) = tokR l a b ++ (if tokB l b = true then [b] else []) := by
  have e : (b + 1 - a).toNat = (b - a).toNat + 1 := by omega
  have e2 : a + (((b - a).toNat : Nat) : Int) = b := by omega
  unfold tokR
  rw [e, List.range_succ, List.map_append, List.filter_append, List.map_singleton, e2, List.filter_cons, List.filter_nil]
theorem tokR_len (l : List S61) (a b : Int) : (tokR l a b).length ≤ (b - a).toNat := by
  unfold tokR
  refine Nat.le_trans (List.length_filter_le _ _) ?_
  simp
theorem tokR_prefix (l : List S61) {a b b' : Int} (h : b ≤ b') : tokR l a b <+: tokR l a b' := by
  unfold tokR
  refine List.IsPrefix.filter _ (List.IsPrefix.map _ ?_)
  have e : (b' - a).toNat = (b - a).toNat + ((b' - a).toNat - (b - a).toNat) := by omega
  rw [e, List.range_add]
  exact List.prefix_append _ _
/-- A token's number. -/
abbrev Tk (l : List S61) := { x : Int // 0 ≤ x ∧ x < (l.length : Int) ∧ tokB l x = true }

def valsT {l : List S61} (xs : List (Tk l)) : List Int := xs.map (·.1)
/-- What a round keeps: what lay ahead of the call, the two boxes. -/
def KpT (n₀ b1 b2 : Nat) (W W' : World) : Prop := Below n₀ W W' ∧ W'.heap[b1]? = W.heap[b1]? ∧ W'.heap[b2]? = W.heap[b2]?
theorem KpT.trans {n₀ b1 b2 : Nat} {A B C : World} (h : KpT n₀ b1 b2 A B) (k : KpT n₀ b1 b2 B C) : KpT n₀ b1 b2 A C := ⟨h.1.trans k.1, k.2.1.trans h.2.1, k.2.2.trans h.2.2⟩
theorem KpT.refl (n₀ b1 b2 : Nat) (A : World) : KpT n₀ b1 b2 A A := ⟨Below.refl _ _, rfl, rfl⟩

theorem KpT_b {n₀ B b1 b2 : Nat} (hn : n₀ ≤ B) (h1 : b1 < B) (h2 : b2 < B) (W : World) (l : Nat) (o o' : Obj) (hl : B ≤ l) (ho : W.heap[l]? = some o) (hc : o.isCells = false) (hw : o.isWalk = false) : KpT n₀ b1 b2 W (W.putObj l o') :=
  ⟨(Below.refl n₀ W).grown (grownBy_putObj' W l o') (by have := (Array.getElem?_eq_some_iff.1 ho).1; omega) (fun k e => by cases e; omega), World.putObj_heap_other (by omega), World.putObj_heap_other (by omega)⟩

set_option maxRecDepth 100000 in
set_option maxHeartbeats 2000000 in
theorem tokens1_in (n : Nat) (hn : 1 ≤ n) (lp b1 b2 : Nat) (w0 : World) (A : Option Addr) (c : Nat) (l : List S61) (x0 x1 x2 x3 : Int) (hl : l.length < 4611686018427387904) (hc : Kd.C k61 w0 A l.length l) (J Jx : List (Tk l) → World → Prop)
    (hY : ∀ pre (x : Tk l) W, J pre W → pre.length < l.length → YieldAt Fence.wide (n - 1) Try.prog lp #[.int .i64 x.1] W fun e W' =>
      (e = .returned (.bool true) ∧ J (pre ++ [x]) W' ∧ KpT w0.heap.size b1 b2 W W') ∨ (e = .returned (.bool false) ∧ Jx (pre ++ [x]) W'))
    (W : World) (hW : Below w0.heap.size w0 W) (h1 : W.heap[b1]? = some (.cells #[.int .u8 x0, .int .i64 x1, .int .i64 x2, .int .i64 x3] 47 (0, 0))) (h2 : W.heap[b2]? = some (.cells #[.slice A l.length c] 22 (0, 0))) (h0 : J [] W) :
    CallsIn Fence.wide n Try.prog 62 #[.func (.yield lp) #[] #[], .pointer (some ⟨b1, 0, none⟩), .pointer (some ⟨b2, 0, none⟩)] W fun e W' => (∃ v, e = .returned v) ∧
      ((∃ ys : List (Tk l), valsT ys = tokR l (mx x1 0) (mn x2 (l.length : Int)) ∧ J ys W') ∨ (∃ pre : List (Tk l), valsT pre <+: tokR l (mx x1 0) (mn x2 (l.length : Int)) ∧ Jx pre W')) := by
  have hu22 := Try.underlying22
  have hu47 := Try.underlying47
  have hu61 := Try.underlying61
  have hlo : 0 ≤ mx x1 0 := by unfold mx; split <;> omega
  have hhi : mn x2 (l.length : Int) ≤ (l.length : Int) := by unfold mn; split <;> omega
  obtain ⟨lo, elo⟩ : ∃ lo, mx x1 0 = lo := ⟨_, rfl⟩
  obtain ⟨hi, ehi⟩ : ∃ hi, mn x2 (l.length : Int) = hi := ⟨_, rfl⟩
  rw [elo] at hlo ⊢
  rw [ehi] at hhi ⊢
  have elo' : (if x1 < 0 then 0 else x1) = lo := elo
  have hcx : W.cell? ⟨b1, 1, none⟩ = some (.int .i64 x1) := (blk_cell h1 1).trans rfl
  have hcx2 : W.cell? ⟨b1, 2, none⟩ = some (.int .i64 x2) := (blk_cell h1 2).trans rfl
  have hcl : W.cell? ⟨b2, 0, none⟩ = some (.slice A l.length c) := (blk_cell h2 0).trans rfl
  refine callsIn_of_wp Try.func62 rfl trivial ?_ rfl
  simp only [Try.ntmps62, List.size_toArray, List.length_cons, List.length_nil, Nat.reduceAdd, Nat.reduceSub, Array.replicate_succ, Array.replicate_zero, List.push_toArray, List.append_toArray, List.nil_append, List.cons_append]
  gi_wp2
  gi_loopw [4] (fun i wr => ∃ (z : Int) (pre : List (Tk l)), i = .int .i64 z ∧ lo ≤ z ∧ (z = lo ∨ z ≤ hi) ∧ valsT pre = tokR l lo z ∧ J pre wr ∧ KpT w0.heap.size b1 b2 W wr) (fun i _ => (hi - intOf i).toNat)
  case atStart =>
    exact ⟨lo, [], rfl, Int.le_refl _, .inl rfl, by rw [tokR_nil l (Int.le_refl _)]; rfl, h0, KpT.refl _ _ _ _⟩
  case round =>
    obtain ⟨z, pre, rfl, hz, hzh, hpre, hJs, hk⟩ := hrel
    have c1 : wr.cell? ⟨b1, 2, none⟩ = some (.int .i64 x2) := (blk_cell (hk.2.1.trans h1) 2).trans rfl
    have c2 : wr.cell? ⟨b2, 0, none⟩ = some (.slice A l.length c) := (blk_cell (hk.2.2.trans h2) 0).trans rfl
    have ehi' : (if (l.length : Int) < x2 then (l.length : Int) else x2) = hi := ehi
    by_cases hlt : z < hi
    · have hz0 : 0 ≤ z := by omega
      have hzl : z < (l.length : Int) := by omega
      obtain ⟨ad, rfl, ca, _, _⟩ := at_T61 (Kd.C_below hc (hW.trans hk.1)) z hz0 hzl
      by_cases g0 : (rd_T61 l z).f0 = 0
      · have b0 : ((rd_T61 l z).f0 != 0) = false := by simp [g0]
        have ht : tokB l z = false := by simp [tokB, g0]
        clear g0
        gi_wp2
        refine ⟨fun _ h => (by cases h), ?_⟩
        gi_wp2
        go_roundw
        case rel => exact ⟨z + 1, pre, rfl, by omega, .inr (by omega), by rw [hpre, tokR_succ l hz, if_neg (by rw [ht]; simp), List.append_nil], hJs, hk⟩
        case measure => simp only [intOf]; omega
      · have b0 : ((rd_T61 l z).f0 != 0) = true := by simp [g0]
        by_cases g1 : (rd_T61 l z).f0 = 1
        · have bb1 : ((rd_T61 l z).f0 != 1) = false := by simp [g1]
          have ht : tokB l z = false := by simp [tokB, g1]
          gi_wp2
          refine ⟨fun _ h => (by cases h), ?_⟩
          gi_wp2
          go_roundw
          case rel => exact ⟨z + 1, pre, rfl, by omega, .inr (by omega), by rw [hpre, tokR_succ l hz, if_neg (by rw [ht]; simp), List.append_nil], hJs, hk⟩
          case measure => simp only [intOf]; omega
        · have bb1 : ((rd_T61 l z).f0 != 1) = true := by simp [g1]
          have ht : tokB l z = true := by simp [tokB, g0, g1]
          have hpl : pre.length < l.length := by
            have e1 : (valsT pre).length = pre.length := by simp [valsT]
            have := tokR_len l lo z
            rw [← hpre, e1] at this
            omega
          obtain ⟨fn, tmps, assign, body, hy, hR⟩ := hY pre ⟨z, hz0, hzl, ht⟩ wr hJs hpl
          dsimp only at hy
          gi_wp2
          refine hR.mono ?_
          rintro e W3 (⟨rfl, hJ3, hk3⟩ | ⟨rfl, hJx3⟩)
          · gi_wp2
            go_roundw
            case rel => exact ⟨z + 1, pre ++ [⟨z, hz0, hzl, ht⟩], rfl, by omega, .inr (by omega), by rw [tokR_succ l hz, if_pos ht, ← hpre]; simp [valsT], hJ3, hk.trans hk3⟩
            case measure => simp only [intOf]; omega
          · gi_wp2
            refine bodyPost_ret (results_none rfl _ _ _) rfl ?_
            refine ⟨⟨_, rfl⟩, .inr ⟨_, ?_, hJx3⟩⟩
            have e1 : valsT (pre ++ [⟨z, hz0, hzl, ht⟩]) = tokR l lo (z + 1) := by rw [tokR_succ l hz, if_pos ht, ← hpre]; simp [valsT]
            rw [e1]
            exact tokR_prefix l (by omega)
    · gi_wp2
      go_end0
      refine ⟨⟨_, rfl⟩, .inl ⟨pre, ?_, hJs⟩⟩
      rcases hzh with rfl | hzh
      · rw [hpre, tokR_nil l (Int.le_refl _), tokR_nil l (by omega)]
      · rw [hpre, show z = hi by omega]

theorem tokens_stops (n : Nat) (hn : 1 ≤ n) (b1 b2 : Nat) (w0 w : World) (A : Option Addr) (c : Nat) (l : List S61) (x0 x1 x2 x3 : Int) (hl : l.length < 4611686018427387904) (hc : Kd.C k61 w0 A l.length l)
    (hW : Below w0.heap.size w0 w) (h1 : w.heap[b1]? = some (.cells #[.int .u8 x0, .int .i64 x1, .int .i64 x2, .int .i64 x3] 47 (0, 0))) (h2 : w.heap[b2]? = some (.cells #[.slice A l.length c] 22 (0, 0))) :
    SeqStopsK Fence.wide n Try.prog 62 #[.pointer (some ⟨b1, 0, none⟩), .pointer (some ⟨b2, 0, none⟩)] (fun x : Tk l => #[.int .i64 x.1]) (KpT w0.heap.size b1 b2) (fun ys => valsT ys = tokR l (mx x1 0) (mn x2 (l.length : Int))) (fun pre => valsT pre <+: tokR l (mx x1 0) (mn x2 (l.length : Int))) l.length w :=
  fun lp J Jx W hb _ _ hY h0 => tokens1_in n hn lp b1 b2 w0 A c l x0 x1 x2 x3 hl hc J Jx hY W (hW.trans (hb.mono hW.size)) (blk_below h1 hb) (blk_below h2 hb) h0

theorem tokens.calls (A : Option Addr) (m c : Nat) (x0 x1 x2 x3 : Int) (w : World) :
    Calls Try.prog 53 #[.slice A m c, .agg #[.int .u8 x0, .int .i64 x1, .int .i64 x2, .int .i64 x3]] w fun e w' => ∃ b1 b2, e = .returned (.func (.func 62) #[] #[.pointer (some ⟨b1, 0, none⟩), .pointer (some ⟨b2, 0, none⟩)]) ∧
      w'.heap[b1]? = some (.cells #[.int .u8 x0, .int .i64 x1, .int .i64 x2, .int .i64 x3] 47 (0, 0)) ∧ w'.heap[b2]? = some (.cells #[.slice A m c] 22 (0, 0)) ∧ w.heap.size ≤ b1 ∧ w.heap.size ≤ b2 ∧ Below w.heap.size w w' := by
  have hu22 := Try.underlying22
  have hu47 := Try.underlying47
  have HB := Aside0.mk (Below.refl w.heap.size w)
  go_enter Try.func53, Try.ntmps53
  go_wp2_with (first
    | ((with_reducible refine gate_dst (N := 2) rfl ?_); refine box_event ?hg2 (N := 2) ?hd2 (cs := #[.slice A m c]) (t := 22) ?hr2 ?_; (case hd2 => rfl); (case hg2 => rfl); (case hr2 => first | (go_simp; done) | (go_simp; rfl)); intro g2 hg w1 hbox hb; have n0_ := Aside0.mk (below_step HB.out hb); have n1_ := Aside0.mk hbox; have GE2 := Aside0.mk (show w.heap.size ≤ g2 by rw [hg]; exact Nat.le_refl _); clear HB; have HB := n0_; have BK2 := n1_; clear n0_ n1_ hb hbox hg)
    | ((with_reducible refine gate_dst (N := 3) rfl ?_); refine box_event ?hg3 (N := 3) ?hd3 (cs := #[.int .u8 x0, .int .i64 x1, .int .i64 x2, .int .i64 x3]) (t := 47) ?hr3 ?_; (case hd3 => rfl); (case hg3 => rfl); (case hr3 => first | (go_simp; done) | (go_simp; rfl)); intro g3 hg w2 hbox hb; have n0_ := Aside0.mk (below_step HB.out hb); have n1_ := Aside0.mk hbox; have n2_ := Aside0.mk (blk_below BK2.out hb); have GE3 := Aside0.mk (show w.heap.size ≤ g3 by rw [hg]; exact HB.out.size); clear HB BK2; have HB := n0_; have BK3 := n1_; have BK2 := n2_; clear n0_ n1_ n2_ hb hbox hg))
  go_ret
  exact ⟨g3, g2, rfl, BK3.out, BK2.out, GE3.out, GE2.out, HB.out⟩
end Go.Proofs.Ytodldpdnhcafpaa.K

namespace Go.Proofs.Ytodldpdnhcafpaa.Q
open Go.RowKit Go.Proofs.YtodldpdnhcafpaaW.PrintWords Go.Proofs.YtodldpdnhcafpaaW.PrintLast Go.Proofs.YtodldpdnhcafpaaW.PrintMore
open Go.Proofs.Ytodldpdnhcafpaa.F Go.Proofs.Ytodldpdnhcafpaa.K
set_option linter.unusedSimpArgs false
set_option linter.unusedVariables false

theorem kw64 {x : Int} (h0 : -9223372036854775808 ≤ x) (h1 : x ≤ 9223372036854775807) : wrap64 x = x := by unfold wrap64; omega
/-- The kids' numbers up to the first that is out of order; whether none is. -/
def kgo (l : List S47) (en : Int) : Nat → List Int → Int → List Int × Bool
  | 0, pre, _ => (pre, true)
  | d + 1, pre, x => if x < en then (if (rd_T47 l x).f3 < 1 then (pre ++ [x], false) else if (rd_T47 l x).f3 > en - x then (pre ++ [x], false) else kgo l en d (pre ++ [x]) (x + (rd_T47 l x).f3)) else (pre, true)
def sizedB (l : List S47) (n : Int) : Bool := decide (0 ≤ n) && (decide (n < (l.length : Int)) && (decide (1 ≤ (rd_T47 l n).f3) && decide ((rd_T47 l n).f3 ≤ (l.length : Int) - n)))
def kspec (l : List S47) (n : Int) : List Int × Bool := if sizedB l n = true then kgo l (n + (rd_T47 l n).f3) l.length [] (n + 1) else ([], false)
def kidsOf (l : List S47) (n : Int) : List Int := if (kspec l n).2 = true then (kspec l n).1 else []

theorem sized_is (l : List S47) (hl : l.length ≤ 4398046511104) (n : Int) : tree_sized.f l n = some (sizedB l n) := by
  unfold tree_sized.f sizedB
  by_cases h1 : n ≥ 0
  · by_cases h2 : n < (l.length : Int)
    · rw [if_pos h1, if_pos h2, if_pos h1, kw64 (by omega) (by omega)]
      by_cases h3 : (rd_T47 l n).f3 ≥ 1
      · rw [if_pos h3]
        simp [h1, h2, show 1 ≤ (rd_T47 l n).f3 from h3]
      · rw [if_neg h3]
        simp [h1, h2, show ¬ 1 ≤ (rd_T47 l n).f3 from h3]
    · rw [if_pos h1, if_neg h2]; simp [h2]
  · rw [if_neg h1]; simp [show ¬ 0 ≤ n from h1]

theorem kids_loop (l : List S47) (hl : l.length ≤ 4398046511104) (n sz en : Int) (hen : en ≤ l.length) (he : wrap64 (n + sz) = en) (h0 : 0 ≤ en) (d : Nat) : ∀ (pre : List Int) (x : Int), 0 ≤ x → en - x ≤ d → (pre.length : Int) ≤ x → pre.length ≤ l.length →
    Ev (fun k => kids.l0 k en pre x l) (kgo l en d pre x) ∧ (kgo l en d pre x).1.length ≤ l.length ∧
    Ev (fun k => monikerref4_Kids.l0 k n sz pre x l) (if (kgo l en d pre x).2 = true then (kgo l en d pre x).1 else [], (kgo l en d pre x).2) := by
  induction d with
  | zero =>
    intro pre x hx hd hp hpl
    refine ⟨⟨1, fun m hm => ?_⟩, hpl, ⟨1, fun m hm => ?_⟩⟩
    · obtain ⟨k, rfl⟩ : ∃ j, m = j + 1 := ⟨m - 1, by omega⟩
      simp only [kids.l0, kgo]
      rw [if_neg (by omega)]
    · obtain ⟨k, rfl⟩ : ∃ j, m = j + 1 := ⟨m - 1, by omega⟩
      simp only [monikerref4_Kids.l0, kgo, he]
      rw [if_neg (by omega), if_pos trivial]
  | succ d ih =>
    intro pre x hx hd hp hpl
    have hlim : pre.length < 17592186044416 := by omega
    by_cases c : x < en
    · have hx2 : x < (l.length : Int) := by omega
      have hw : wrap64 (en - x) = en - x := kw64 (by omega) (by omega)
      have hl1 : (pre ++ [x]).length ≤ l.length := by rw [List.length_append, List.length_singleton]; omega
      by_cases c1 : (rd_T47 l x).f3 < 1
      · have e : kgo l en (d + 1) pre x = (pre ++ [x], false) := by simp only [kgo]; rw [if_pos c, if_pos c1]
        rw [e]
        refine ⟨⟨1, fun m hm => ?_⟩, hl1, ⟨1, fun m hm => ?_⟩⟩
        · obtain ⟨k, rfl⟩ : ∃ j, m = j + 1 := ⟨m - 1, by omega⟩
          simp only [kids.l0]
          rw [if_pos c, if_pos hx, if_pos hx2, if_pos c1]
        · obtain ⟨k, rfl⟩ : ∃ j, m = j + 1 := ⟨m - 1, by omega⟩
          simp only [monikerref4_Kids.l0, he]
          rw [if_pos c, if_pos hlim, if_pos hx, if_pos hx2, if_pos c1]
          simp
      · by_cases c2 : (rd_T47 l x).f3 > en - x
        · have e : kgo l en (d + 1) pre x = (pre ++ [x], false) := by simp only [kgo]; rw [if_pos c, if_neg c1, if_pos c2]
          rw [e]
          refine ⟨⟨1, fun m hm => ?_⟩, hl1, ⟨1, fun m hm => ?_⟩⟩
          · obtain ⟨k, rfl⟩ : ∃ j, m = j + 1 := ⟨m - 1, by omega⟩
            simp only [kids.l0]
            rw [if_pos c, if_pos hx, if_pos hx2, if_neg c1, hw, if_pos c2]
          · obtain ⟨k, rfl⟩ : ∃ j, m = j + 1 := ⟨m - 1, by omega⟩
            simp only [monikerref4_Kids.l0, he]
            rw [if_pos c, if_pos hlim, if_pos hx, if_pos hx2, if_neg c1, hw, if_pos c2]
            simp
        · have e : kgo l en (d + 1) pre x = kgo l en d (pre ++ [x]) (x + (rd_T47 l x).f3) := by simp only [kgo]; rw [if_pos c, if_neg c1, if_neg c2]
          rw [e]
          have hw2 : wrap64 (x + (rd_T47 l x).f3) = x + (rd_T47 l x).f3 := kw64 (by omega) (by omega)
          obtain ⟨i1, i2, i3⟩ := ih (pre ++ [x]) (x + (rd_T47 l x).f3) (by omega) (by omega) (by rw [List.length_append, List.length_singleton]; omega) hl1
          refine ⟨Ev.step (fun k => ?_) i1, i2, Ev.step (fun k => ?_) i3⟩
          · simp only [kids.l0]
            rw [if_pos c, if_pos hx, if_pos hx2, if_neg c1, hw, if_neg c2, hw2]
          · simp only [monikerref4_Kids.l0, he]
            rw [if_pos c, if_pos hlim, if_pos hx, if_pos hx2, if_neg c1, hw, if_neg c2, hw2]
    · have e : kgo l en (d + 1) pre x = (pre, true) := by simp only [kgo]; rw [if_neg c]
      rw [e]
      refine ⟨⟨1, fun m hm => ?_⟩, hpl, ⟨1, fun m hm => ?_⟩⟩
      · obtain ⟨k, rfl⟩ : ∃ j, m = j + 1 := ⟨m - 1, by omega⟩
        simp only [kids.l0]
        rw [if_neg c]
      · obtain ⟨k, rfl⟩ : ∃ j, m = j + 1 := ⟨m - 1, by omega⟩
        simp only [monikerref4_Kids.l0, he]
        rw [if_neg c, if_pos trivial]

theorem Kids_all (l : List S47) (hl : l.length ≤ 4398046511104) (n : Int) :
    Ev (fun k => kids.f k l n) (kspec l n) ∧ (kspec l n).1.length ≤ l.length ∧ Ev (fun k => monikerref4_Kids.f k l n) (kidsOf l n, (kspec l n).2) := by
  unfold kidsOf
  by_cases hs : sizedB l n = true
  · have h := hs
    unfold sizedB at h
    simp only [Bool.and_eq_true, decide_eq_true_eq] at h
    obtain ⟨h1, h2, h3, h4⟩ := h
    have hw : wrap64 (n + (rd_T47 l n).f3) = n + (rd_T47 l n).f3 := kw64 (by omega) (by omega)
    have hw1 : wrap64 (n + 1) = n + 1 := kw64 (by omega) (by omega)
    have hw2 : wrap64 ((l.length : Int) - n) = (l.length : Int) - n := kw64 (by omega) (by omega)
    obtain ⟨i1, i2, i3⟩ := kids_loop l hl n (rd_T47 l n).f3 (n + (rd_T47 l n).f3) (by omega) hw (by omega) l.length [] (n + 1) (by omega) (by omega) (by simp; omega) (by simp)
    have e : kspec l n = kgo l (n + (rd_T47 l n).f3) l.length [] (n + 1) := by unfold kspec; rw [if_pos hs]
    rw [e]
    refine ⟨Ev.congr (fun k => ?_) i1, i2, ?_⟩
    · unfold kids.f
      rw [sized_is l hl, hs]
      simp only [Option.bind_some, if_true]
      rw [if_pos h1, if_pos h2, hw, hw1]
    · unfold monikerref4_Kids.f
      simp only [if_neg (show ¬ n < 0 by omega), show decide (n ≥ (l.length : Int)) = false from decide_eq_false (by omega)]
      refine Ev.step (f := fun k => monikerref4_Kids.j1 k n (rd_T47 l n).f3 false l) (fun k => ?_) ?_
      · simp only [monikerref4_Kids.j0, hw2]
        rw [if_neg (by simp), if_pos h1, if_pos h2, if_neg (by omega), show decide ((rd_T47 l n).f3 > (l.length : Int) - n) = false from decide_eq_false (by omega)]
      · refine Ev.step (fun k => ?_) i3
        simp only [monikerref4_Kids.j1, hw1]
        rw [if_neg (by simp)]
  · have e : kspec l n = ([], false) := by unfold kspec; rw [if_neg hs]
    rw [e]
    have hs' : sizedB l n = false := by simpa using hs
    refine ⟨⟨0, fun k _ => ?_⟩, by simp, ?_⟩
    · simp only
      unfold kids.f
      rw [sized_is l hl, hs']
      simp
    · simp only [Bool.false_eq_true, if_false]
      have hbad : Ev (fun k => monikerref4_Kids.j0 k n true l) (([] : List Int), false) := ⟨1, fun m hm => by
        obtain ⟨k, rfl⟩ : ∃ j, m = j + 1 := ⟨m - 1, by omega⟩
        simp only [monikerref4_Kids.j0]; rfl⟩
      unfold monikerref4_Kids.f
      by_cases h1 : n < 0
      · simp only [if_pos h1]; exact hbad
      · simp only [if_neg h1]
        by_cases h2 : n ≥ (l.length : Int)
        · rw [decide_eq_true h2]; exact hbad
        · rw [decide_eq_false h2]
          have hw2 : wrap64 ((l.length : Int) - n) = (l.length : Int) - n := kw64 (by omega) (by omega)
          have hbad1 : ∀ sz, Ev (fun k => monikerref4_Kids.j1 k n sz true l) (([] : List Int), false) := fun sz => ⟨1, fun m hm => by
            obtain ⟨k, rfl⟩ : ∃ j, m = j + 1 := ⟨m - 1, by omega⟩
            simp only [monikerref4_Kids.j1]; rfl⟩
          refine Ev.step (f := fun k => monikerref4_Kids.j1 k n (rd_T47 l n).f3 true l) (fun k => ?_) (hbad1 _)
          simp only [monikerref4_Kids.j0, hw2]
          rw [if_neg (by simp), if_pos (by omega), if_pos (by omega)]
          by_cases h3 : (rd_T47 l n).f3 < 1
          · rw [if_pos h3]
          · rw [if_neg h3]
            have h4 : (rd_T47 l n).f3 > (l.length : Int) - n := by
              apply Classical.byContradiction
              intro h4
              apply hs
              unfold sizedB
              simp only [Bool.and_eq_true, decide_eq_true_eq]
              omega
            rw [decide_eq_true h4]
end Go.Proofs.Ytodldpdnhcafpaa.Q

-- Walk (25, 50): the iterator's contract
namespace Go.Proofs.Ytodldpdnhcafpaa.K
open Go.RowKit Go.Shelf Go.Proofs.YtodldpdnhcafpaaW.PrintWords Go.Proofs.YtodldpdnhcafpaaW.PrintLast Go.Proofs.YtodldpdnhcafpaaW.PrintMore
open Go.Proofs.Ytodldpdnhcafpaa.F
attribute [local go_sem] Oper.semAt_some max2_int min2_int max_two min_two
set_option linter.unusedVariables false
set_option linter.unusedSimpArgs false

def KpW (n₀ b1 b2 b3 : Nat) (W W' : World) : Prop := Below n₀ W W' ∧ W'.heap[b1]? = W.heap[b1]? ∧ W'.heap[b2]? = W.heap[b2]? ∧ W'.heap[b3]? = W.heap[b3]?
theorem KpW.trans {n₀ b1 b2 b3 : Nat} {A B C : World} (h : KpW n₀ b1 b2 b3 A B) (k : KpW n₀ b1 b2 b3 B C) : KpW n₀ b1 b2 b3 A C := ⟨h.1.trans k.1, k.2.1.trans h.2.1, k.2.2.1.trans h.2.2.1, k.2.2.2.trans h.2.2.2⟩

end Go.Proofs.Ytodldpdnhcafpaa.K

-- chosen (26, 52): its contract, as a Walk asks it
namespace Go.Proofs.Ytodldpdnhcafpaa.K
open Go.RowKit Go.Shelf Go.Proofs.YtodldpdnhcafpaaW.PrintWords Go.Proofs.YtodldpdnhcafpaaW.PrintLast Go.Proofs.YtodldpdnhcafpaaW.PrintMore
open Go.Proofs.Ytodldpdnhcafpaa.F
set_option linter.unusedVariables false
set_option linter.unusedSimpArgs false

/-- The bit that is asked. -/
def chV (bits x : Int) : Int := Go.bits .and .u64 (shr .u64 bits (IntKind.u64.wrap (Go.bits .and .i64 x 63))) 1
def chB (bits x : Int) : Bool := chV bits x == 1
theorem chosen1.calls (bits x : Int) (b : Nat) (W : World) (hb : W.heap[b]? = some (.cells #[.int .u64 bits] 36 (0, 0))) :
    Calls Try.prog 52 #[.int .i64 x, .pointer (some ⟨b, 0, none⟩)] W fun e w' => e = .returned (.bool (chB bits x)) ∧ Below W.heap.size W w' := by
  have hu36 := Try.underlying36
  have q : W.cell? ⟨b, 0, none⟩ = some (.int .u64 bits) := (blk_cell hb 0).trans rfl
  have HB := Aside0.mk (Below.refl W.heap.size W)
  go_enter Try.func52, Try.ntmps52
  go_wp2
  go_ret
  exact ⟨rfl, HB.out⟩
theorem chosen.calls (bits : Int) (w : World) :
    Calls Try.prog 26 #[.int .u64 bits] w fun e w' => ∃ b, e = .returned (.func (.func 52) #[] #[.pointer (some ⟨b, 0, none⟩)]) ∧ w'.heap[b]? = some (.cells #[.int .u64 bits] 36 (0, 0)) ∧ w.heap.size ≤ b ∧ Below w.heap.size w w' := by
  have hu36 := Try.underlying36
  have HB := Aside0.mk (Below.refl w.heap.size w)
  go_enter Try.func26, Try.ntmps26
  go_wp2_with (first
    | ((with_reducible refine gate_dst (N := 1) rfl ?_); refine box_event ?hg3 (N := 1) ?hd3 (cs := #[.int .u64 bits]) (t := 36) ?hr3 ?_; (case hd3 => rfl); (case hg3 => rfl); (case hr3 => first | (go_simp; done) | (go_simp; rfl)); intro g3 hg w1 hbox hb; have n0_ := Aside0.mk (below_step HB.out hb); have n1_ := Aside0.mk hbox; have GE3 := Aside0.mk (show w.heap.size ≤ g3 by rw [hg]; exact Nat.le_refl _); clear HB; have HB := n0_; have BK3 := n1_; clear n0_ n1_ hb hbox hg))
  go_ret
  exact ⟨g3, rfl, BK3.out, GE3.out, HB.out⟩
end Go.Proofs.Ytodldpdnhcafpaa.K

-- A text of this session's own program (wip/myprint.sh over a changed print tool): functions and their walks
namespace Go.Proofs.Ytodldpdnhcafpaa.F
open Go.RowKit Go.Proofs.YtodldpdnhcafpaaW.PrintWords Go.Proofs.YtodldpdnhcafpaaW.PrintLast Go.Proofs.YtodldpdnhcafpaaW.PrintMore
attribute [local go_sem] max2_int min2_int max_two min_two max_three min_three max_four min_four   -- for this text's walks alone
set_option linter.unusedVariables false
set_option linter.unusedSimpArgs false

/-! ### tree_shaped: function 60 -/
mutual
def tree_shaped.j0 : Nat → Bool → List (S47) → Option (Bool)
  | 0, _, _ => none
  | k + 1, x21, x313000 => if x21 = true then (some false) else (tree_shaped.l0 k ([] : List Int) x313000 (x313000.length : Int) 0 x313000)
def tree_shaped.l0 : Nat → List Int → List (S47) → Int → Int → List (S47) → Option (Bool)
  | 0, _, _, _, _, _ => none
  | k + 1, x3, x23, x24, x25, x313000 => if x25 < x24 then (if 0 ≤ x25 then (if x25 < (x23.length : Int) then (tree_shaped.l1 k x3 x25 x23 x24 x25 x313000 ((rd_T47 x23 x25).f0) ((rd_T47 x23 x25).f1) ((rd_T47 x23 x25).f2) ((rd_T47 x23 x25).f3)) else (none)) else (none)) else (some true)
def tree_shaped.j3 : Nat → List Int → Int → List (S47) → Int → Int → List (S47) → Int → Int → Int → Int → Option (Bool)
  | 0, _, _, _, _, _, _, _, _, _, _ => none
  | k + 1, x3, x4, x23, x24, x25, x313000, x316000, x316001, x316002, x316003 => if (x3.length : Int) > 0 then (if 0 ≤ (wrap64 ((x3.length : Int) - 1)) then (if (wrap64 ((x3.length : Int) - 1)) < (x3.length : Int) then (if x316000 ≥ 58 then (some false) else (if x316003 < 1 then (some false) else (if x316003 > (wrap64 ((rd x3 (wrap64 ((x3.length : Int) - 1))) - x4)) then (some false) else (if x3.length < 17592186044416 then (tree_shaped.l0 k (x3 ++ [wrap64 (x4 + x316003)]) x23 x24 (wrap64 (x25 + 1)) x313000) else (none))))) else (none)) else (none)) else (if x316000 ≥ 58 then (some false) else (if x316003 < 1 then (some false) else (if x316003 > (wrap64 ((x313000.length : Int) - x4)) then (some false) else (if x3.length < 17592186044416 then (tree_shaped.l0 k (x3 ++ [wrap64 (x4 + x316003)]) x23 x24 (wrap64 (x25 + 1)) x313000) else (none)))))
def tree_shaped.l1 : Nat → List Int → Int → List (S47) → Int → Int → List (S47) → Int → Int → Int → Int → Option (Bool)
  | 0, _, _, _, _, _, _, _, _, _, _ => none
  | k + 1, x3, x4, x23, x24, x25, x313000, x316000, x316001, x316002, x316003 => if (x3.length : Int) > 0 then (if 0 ≤ (wrap64 ((x3.length : Int) - 1)) then (if (wrap64 ((x3.length : Int) - 1)) < (x3.length : Int) then (if (rd x3 (wrap64 ((x3.length : Int) - 1))) = x4 then (if (wrap64 ((x3.length : Int) - 1)) ≤ (x3.length : Int) then (tree_shaped.l1 k (x3.take ((wrap64 ((x3.length : Int) - 1)) : Int).toNat) x4 x23 x24 x25 x313000 x316000 x316001 x316002 x316003) else (none)) else (tree_shaped.j3 k x3 x4 x23 x24 x25 x313000 x316000 x316001 x316002 x316003)) else (none)) else (none)) else (tree_shaped.j3 k x3 x4 x23 x24 x25 x313000 x316000 x316001 x316002 x316003)
end
def tree_shaped.f (k : Nat) (l0_0 : List (S47)) : Option (Bool) := if (l0_0.length : Int) = 0 then (tree_shaped.j0 k true l0_0) else (if 0 < (l0_0.length : Int) then (tree_shaped.j0 k (((rd_T47 l0_0 0).f3) != (l0_0.length : Int)) l0_0) else (none))
set_option maxHeartbeats 8000000 in
set_option maxRecDepth 100000 in
theorem tree_shaped.calls (k : Nat) (A0_0 : Option Addr) (c0_0 : Nat) (l0_0 : List (S47)) (r : Bool) (w : World) (hr0_0 : Kd.C k47 w A0_0 l0_0.length l0_0) (hc0_0 : l0_0.length ≤ c0_0) (h : tree_shaped.f k l0_0 = some r) :
    Calls Try.prog 60 #[.agg #[.slice A0_0 l0_0.length c0_0]] w fun e w' => e = .returned (.bool r) ∧ Below w.heap.size w w' := by
  have hu25 := Try.underlying25
  have hu47 := Try.underlying47
  have HR0_0 := Aside0.mk hr0_0
  have HC0_0 := Aside0.mk hc0_0
  clear hr0_0 hc0_0
  have HB := Aside0.mk (Below.refl w.heap.size w)
  have H : (if (l0_0.length : Int) = 0 then (tree_shaped.j0 k true l0_0) else (if 0 < (l0_0.length : Int) then (tree_shaped.j0 k (((rd_T47 l0_0 0).f3) != (l0_0.length : Int)) l0_0) else (none))) = some r := h
  clear h
  have HC2 := Aside0.mk H
  clear H
  go_enter Try.func60, Try.ntmps60
  go_upto_region 1 with (first | ((with_reducible refine gate_dst (N := 1) rfl ?_); (try (refine gate_guard (by rfl) ?_; dsimp only)); refine box_event ?hg (N := 1) ?hd (cs := #[.slice A0_0 l0_0.length c0_0]) (t := 25) ?hr ?_; (case hd => rfl); (case hg => rfl); (case hr => first | (go_simp; done) | (go_simp; rfl)); intro gb312 hg w3 hbox hb; have n0_ := Aside0.mk (below_step (by repeat (first | (with_reducible first | exact HB.out | apply below_alloc | apply pw_below_drewN | apply below_drew1) | exact HB.out)) hb); have n1_ := Aside0.mk (hbox); have n2_ := Aside0.mk ((by rw [hg]; exact (below_size (by repeat (first | (with_reducible first | exact HB.out | apply below_alloc | apply pw_below_drewN | apply below_drew1) | exact HB.out))) : w.heap.size ≤ gb312)); have n3_ := Aside0.mk ((by rw [hg]; exact (below_size (by repeat (first | (with_reducible first | exact HB.out | apply below_alloc | apply pw_below_drewN | apply below_drew1) | exact HB.out))) : w.heap.size ≤ gb312)); clear HB; have HB := n0_; have BK312 := n1_; have GW312 := n2_; have GE312 := n3_; clear n0_ n1_ n2_ n3_; clear hb hbox hg))
  repeat (go_quiet (first | ((with_reducible refine gate_dst (N := 1) rfl ?_); (try (refine gate_guard (by rfl) ?_; dsimp only)); refine box_event ?hg (N := 1) ?hd (cs := #[.slice A0_0 l0_0.length c0_0]) (t := 25) ?hr ?_; (case hd => rfl); (case hg => rfl); (case hr => first | (go_simp; done) | (go_simp; rfl)); intro gb312 hg w3 hbox hb; have n0_ := Aside0.mk (below_step (by repeat (first | (with_reducible first | exact HB.out | apply below_alloc | apply pw_below_drewN | apply below_drew1) | exact HB.out)) hb); have n1_ := Aside0.mk (hbox); have n2_ := Aside0.mk ((by rw [hg]; exact (below_size (by repeat (first | (with_reducible first | exact HB.out | apply below_alloc | apply pw_below_drewN | apply below_drew1) | exact HB.out))) : w.heap.size ≤ gb312)); have n3_ := Aside0.mk ((by rw [hg]; exact (below_size (by repeat (first | (with_reducible first | exact HB.out | apply below_alloc | apply pw_below_drewN | apply below_drew1) | exact HB.out))) : w.heap.size ≤ gb312)); clear HB; have HB := n0_; have BK312 := n1_; have GW312 := n2_; have GE312 := n3_; clear n0_ n1_ n2_ n3_; clear hb hbox hg)); go_upto_region 1 with (first | ((with_reducible refine gate_dst (N := 1) rfl ?_); (try (refine gate_guard (by rfl) ?_; dsimp only)); refine box_event ?hg (N := 1) ?hd (cs := #[.slice A0_0 l0_0.length c0_0]) (t := 25) ?hr ?_; (case hd => rfl); (case hg => rfl); (case hr => first | (go_simp; done) | (go_simp; rfl)); intro gb312 hg w3 hbox hb; have n0_ := Aside0.mk (below_step (by repeat (first | (with_reducible first | exact HB.out | apply below_alloc | apply pw_below_drewN | apply below_drew1) | exact HB.out)) hb); have n1_ := Aside0.mk (hbox); have n2_ := Aside0.mk ((by rw [hg]; exact (below_size (by repeat (first | (with_reducible first | exact HB.out | apply below_alloc | apply pw_below_drewN | apply below_drew1) | exact HB.out))) : w.heap.size ≤ gb312)); have n3_ := Aside0.mk ((by rw [hg]; exact (below_size (by repeat (first | (with_reducible first | exact HB.out | apply below_alloc | apply pw_below_drewN | apply below_drew1) | exact HB.out))) : w.heap.size ≤ gb312)); clear HB; have HB := n0_; have BK312 := n1_; have GW312 := n2_; have GE312 := n3_; clear n0_ n1_ n2_ n3_; clear hb hbox hg)))
  (try simp only [Act.put, List.setIfInBounds_toArray, List.set_cons_zero, List.set_cons_succ])
  go_cut [21] (fun v21 wc => ∃ (kq : Nat) (x21_1 : Bool), v21 = .bool x21_1 ∧ Aside0 (tree_shaped.j0 kq x21_1 l0_0 = some r) ∧ Aside0 (kq ≤ k) ∧ Aside0 (wc.heap[gb312]? = some (.cells #[(.slice A0_0 l0_0.length c0_0)] 25 (0, 0))) ∧ Aside0 (Below w.heap.size w wc))
  case first =>
    have H := HC2.out
    clear HC2
    by_cases c4 : (l0_0.length : Int) = 0
    · rw [if_pos c4] at H
      have c4b0 : ((l0_0.length : Int) == 0) = true := beq_iff_eq.mpr c4
      have c4b1 : ((l0_0.length : Int) != 0) = false := bne_eq_false_iff_eq.mpr c4
      clear c4
      (first | rw [c4b0] | (simp only [i64_w, i32_w]; rw [c4b0]) | skip)
      have H' := Aside0.mk H
      clear H
      have hcz5_0 : w3.cell? ⟨gb312, 0, none⟩ = some (.slice A0_0 l0_0.length c0_0) := (blk_cell BK312.out 0).trans rfl
      have hfz5_0 := blk_frozen BK312.out 0
      go_wp2
      repeat (go_quiet (fail); try go_wp2)
      go_meet
      case rel => exact ⟨_, (true), (by first | rfl | (simp; done) | (simp [*]; done)), H', ⟨by first | omega | exact Nat.le_refl _⟩, ⟨by (with_reducible repeat (first | refine blk_drewN ?_ _ | refine blk_drew ?_ | refine blk_alloc ?_ _)); exact BK312.out⟩, ⟨by repeat (first | (with_reducible first | exact HB.out | apply below_alloc | apply pw_below_drewN | apply below_drew1 | refine below_set ?_ GE312.out) | exact HB.out)⟩⟩
    · rw [if_neg c4] at H
      have c4b0 : ((l0_0.length : Int) == 0) = false := beq_eq_false_iff_ne.mpr c4
      have c4b1 : ((l0_0.length : Int) != 0) = true := bne_iff_ne.mpr c4
      have c4b2 : ¬ (l0_0 = []) := fun h_ => c4 (by rw [h_]; rfl)
      (first | rw [c4b0] | (simp only [i64_w, i32_w]; rw [c4b0]) | skip)
      by_cases c6 : 0 < (l0_0.length : Int)
      · rw [if_pos c6] at H
        have c6b0 : decide (0 < (l0_0.length : Int)) = true := decide_eq_true c6
        have c6b1 : decide (0 < l0_0.length) = true := decide_eq_true (by omega)
        clear c6
        have H' := Aside0.mk H
        clear H
        have hcz7_0 : w3.cell? ⟨gb312, 0, none⟩ = some (.slice A0_0 l0_0.length c0_0) := (blk_cell BK312.out 0).trans rfl
        have hfz7_0 := blk_frozen BK312.out 0
        have p313 : 0 ≤ (0 : Int) := (by omega)
        have q313 : 0 < (l0_0.length : Int) := of_decide_eq_true (by first | (with_reducible assumption) | assumption)
        obtain ⟨ad313, e313, hx313_0, hx313_1, hx313_2, hx313_3⟩ := at_T47 HR0_0.out 0 p313 q313
        cases e313
        have qi313 : (0 < l0_0.length) = True := eq_true (by omega)
        (try rw [show ((0 : Int)).toNat = 0 from rfl] at hx313_0)
        (try rw [show 0 * 4 = 0 from rfl] at hx313_0)
        (try rw [Addr.add_zero'] at hx313_0)
        (try rw [show ((0 : Int)).toNat = 0 from rfl] at hx313_1)
        (try rw [show 0 * 4 = 0 from rfl] at hx313_1)
        (try rw [Addr.add_zero'] at hx313_1)
        (try rw [show ((0 : Int)).toNat = 0 from rfl] at hx313_2)
        (try rw [show 0 * 4 = 0 from rfl] at hx313_2)
        (try rw [Addr.add_zero'] at hx313_2)
        (try rw [show ((0 : Int)).toNat = 0 from rfl] at hx313_3)
        (try rw [show 0 * 4 = 0 from rfl] at hx313_3)
        (try rw [Addr.add_zero'] at hx313_3)
        replace hx313_0 := (HB.out.cell (World.block_lt_of_cell? w _ hx313_0)).trans hx313_0
        replace hx313_1 := (HB.out.cell (World.block_lt_of_cell? w _ hx313_1)).trans hx313_1
        replace hx313_2 := (HB.out.cell (World.block_lt_of_cell? w _ hx313_2)).trans hx313_2
        replace hx313_3 := (HB.out.cell (World.block_lt_of_cell? w _ hx313_3)).trans hx313_3
        replace p313 := eq_true p313
        replace q313 := eq_true q313
        go_wp2
        repeat (go_quiet (fail); try go_wp2)
        go_meet
        case rel => exact ⟨_, ((((rd_T47 l0_0 0).f3) != (l0_0.length : Int))), (by first | rfl | (simp; done) | (simp [*]; done)), H', ⟨by first | omega | exact Nat.le_refl _⟩, ⟨by (with_reducible repeat (first | refine blk_drewN ?_ _ | refine blk_drew ?_ | refine blk_alloc ?_ _)); exact BK312.out⟩, ⟨by repeat (first | (with_reducible first | exact HB.out | apply below_alloc | apply pw_below_drewN | apply below_drew1 | refine below_set ?_ GE312.out) | exact HB.out)⟩⟩
      · rw [if_neg c6] at H
        exact absurd H (by simp)
  case rest =>
    clear HC2
    try clear p2
    try clear p3
    try clear q3
    try clear hx3
    try clear qi3
    try clear c4
    try clear c4b0
    try clear c4b1
    try clear c4b2
    try clear c6
    try clear c6b0
    try clear c6b1
    try clear hcz5_0
    try clear hcz7_0
    try clear hfz5_0
    try clear hfz7_0
    try clear hx313_0
    try clear hx313_1
    try clear hx313_2
    try clear hx313_3
    try clear p313
    try clear q313
    obtain ⟨kq, x21_1, rfl, HA, HJ1, BK312, HB⟩ := hcut
    cases kq with
    | zero => exact absurd HA.out (by simp [tree_shaped.j0])
    | succ kj1 =>
      have H := HA.out
      clear HA
      simp only [tree_shaped.j0] at H
      by_cases c8 : x21_1 = true
      · subst c8
        have H1 : (some false) = some r := by rw [if_pos rfl] at H; exact H
        clear H
        have H := H1
        clear H1
        obtain rfl := Option.some.inj H
        go_wp2
        repeat (go_quiet (fail); try go_wp2)
        go_ret
        exact ⟨by first | rfl | (simp [errW_none, errW_some] <;> rfl) | (simp [*, errW_none, errW_some] <;> rfl), by repeat (first | (with_reducible first | exact HB.out | apply below_alloc | apply pw_below_drewN | apply below_drew1 | refine below_set ?_ GE312.out) | exact HB.out)⟩
      · replace c8 := Bool.eq_false_iff.mpr c8
        subst c8
        have H1 : (tree_shaped.l0 kj1 ([] : List Int) l0_0 (l0_0.length : Int) 0 l0_0) = some r := by rw [if_neg (show ¬ (false = true) by decide)] at H; exact H
        clear H
        have H := H1
        clear H1
        have H' := Aside0.mk H
        clear H
        have hcz9_0 : wc.cell? ⟨gb312, 0, none⟩ = some (.slice A0_0 l0_0.length c0_0) := (blk_cell BK312.out 0).trans rfl
        have hfz9_0 := blk_frozen BK312.out 0
        go_wp2
        repeat (go_quiet (fail); try go_wp2)
        go_loopg [3, 25] kj1 (fun kq v3 v25 w' => ∃ (x3_2 : List Int) (x25_2 : Int), v25 = .int .i64 x25_2 ∧ Aside0 (tree_shaped.l0 kq x3_2 l0_0 (l0_0.length : Int) x25_2 l0_0 = some r) ∧ Aside0 (kq ≤ kj1) ∧ Aside0 (Kd.R (Kd.int .i64) 3 w' w.heap.size (fun _ => True) v3 x3_2) ∧ Aside0 (w'.heap[gb312]? = some (.cells #[(.slice A0_0 l0_0.length c0_0)] 25 (0, 0))) ∧ Aside0 (Below w.heap.size w w'))
        case atStart => exact ⟨(([] : List Int)), (0), (by first | rfl | (simp; done) | (simp [*]; done)), H', ⟨Nat.le_refl _⟩, ⟨by first | exact Kd.R_nil _ _ _ _ _ | exact Kd.N_nil _ _ _ _ _ | exact Kd.V_nil _ _ _ _ _ | exact Kd.Q_nil _ _ _ _ _ | exact Kd.S_nil _ _ _ _ _⟩, ⟨by (with_reducible repeat (first | refine blk_drewN ?_ _ | refine blk_drew ?_ | refine blk_alloc ?_ _)); exact BK312.out⟩, ⟨by repeat (first | (with_reducible first | exact HB.out | apply below_alloc | apply pw_below_drewN | apply below_drew1 | refine below_set ?_ GE312.out) | exact HB.out)⟩⟩
        case round =>
          clear H'
          try clear p2
          try clear p3
          try clear q3
          try clear hx3
          try clear qi3
          try clear c4
          try clear c4b0
          try clear c4b1
          try clear c4b2
          try clear c6
          try clear c6b0
          try clear c6b1
          try clear c8
          try clear hcz5_0
          try clear hcz7_0
          try clear hcz9_0
          try clear hfz5_0
          try clear hfz7_0
          try clear hfz9_0
          try clear hx313_0
          try clear hx313_1
          try clear hx313_2
          try clear hx313_3
          try clear p2
          try clear p3
          try clear p313
          try clear q3
          try clear q313
          obtain ⟨x3_2, x25_2, rfl, HA, HK2, HO_3, BK312, HB⟩ := hrel
          cases gk with
          | zero => exact absurd HA.out (by simp [tree_shaped.l0])
          | succ k2 =>
            have H := HA.out
            clear HA
            simp only [tree_shaped.l0] at H
            by_cases c10 : x25_2 < (l0_0.length : Int)
            · rw [if_pos c10] at H
              have c10b0 : decide (x25_2 < (l0_0.length : Int)) = true := decide_eq_true c10
              clear c10
              by_cases c11 : 0 ≤ x25_2
              · rw [if_pos c11] at H
                have c11b0 : decide (0 ≤ x25_2) = true := decide_eq_true c11
                clear c11
                by_cases c12 : x25_2 < (l0_0.length : Int)
                · rw [if_pos c12] at H
                  have c12b0 : decide (x25_2 < (l0_0.length : Int)) = true := decide_eq_true c12
                  clear c12
                  have HC13 := Aside0.mk H
                  clear H
                  have p314 : 0 ≤ (x25_2 : Int) := of_decide_eq_true (by first | (with_reducible assumption) | assumption)
                  have q314 : x25_2 < (l0_0.length : Int) := of_decide_eq_true (by first | (with_reducible assumption) | assumption)
                  obtain ⟨ad314, e314, hx314_0, hx314_1, hx314_2, hx314_3⟩ := at_T47 HR0_0.out x25_2 p314 q314
                  cases e314
                  replace hx314_0 := (HB.out.cell (World.block_lt_of_cell? w _ hx314_0)).trans hx314_0
                  replace hx314_1 := (HB.out.cell (World.block_lt_of_cell? w _ hx314_1)).trans hx314_1
                  replace hx314_2 := (HB.out.cell (World.block_lt_of_cell? w _ hx314_2)).trans hx314_2
                  replace hx314_3 := (HB.out.cell (World.block_lt_of_cell? w _ hx314_3)).trans hx314_3
                  replace p314 := eq_true p314
                  replace q314 := eq_true q314
                  go_upto_block 2 with (first | ((with_reducible refine gate_dst (N := 5) rfl ?_); (try (refine gate_guard (by rfl) ?_; dsimp only)); refine box_event ?hg (N := 5) ?hd (cs := #[.int .u8 0, .int .i64 0, .int .i64 0, .int .i64 0]) (t := 47) ?hr ?_; (case hd => rfl); (case hg => rfl); (case hr => first | (go_simp; done) | (go_simp; rfl)); intro gb315 hg w14 hbox hb; have n0_ := Aside0.mk (Kd.R_below (by (with_reducible repeat (first | apply Kd.R_alloc | apply Kd.R_drewN | apply Kd.R_drew)); exact HO_3.out) hb); have n1_ := Aside0.mk (blk_below (g := gb312) (o := .cells #[.slice (some ad314) l0_0.length c0_0] 25 (0, 0)) (by (with_reducible repeat (first | refine blk_drewN ?_ _ | refine blk_drew ?_ | refine blk_alloc ?_ _)); exact BK312.out) hb); have n2_ := Aside0.mk (below_step (by repeat (first | (with_reducible first | exact HB.out | apply below_alloc | apply pw_below_drewN | apply below_drew1 | refine below_set ?_ GE312.out) | exact HB.out)) hb); have n3_ := Aside0.mk (hbox); have n4_ := Aside0.mk ((by rw [hg]; exact (below_size (by repeat (first | (with_reducible first | exact HB.out | apply below_alloc | apply pw_below_drewN | apply below_drew1 | refine below_set ?_ GE312.out) | exact HB.out))) : w.heap.size ≤ gb315)); have n5_ := Aside0.mk ((by rw [hg]; exact (below_size (by repeat (first | (with_reducible first | exact HB.out | apply below_alloc | apply pw_below_drewN | apply below_drew1 | refine below_set ?_ GE312.out) | exact HB.out))) : w.heap.size ≤ gb315)); have n6_ := Aside0.mk ((by rw [hg]; exact Nat.ne_of_lt (blk_lt (g := gb312) (o := .cells #[.slice (some ad314) l0_0.length c0_0] 25 (0, 0)) (by (with_reducible repeat (first | refine blk_drewN ?_ _ | refine blk_drew ?_ | refine blk_alloc ?_ _)); exact BK312.out)) : gb312 ≠ gb315)); have n7_ := Aside0.mk ((by rw [hg]; exact Nat.ne_of_gt (blk_lt (g := gb312) (o := .cells #[.slice (some ad314) l0_0.length c0_0] 25 (0, 0)) (by (with_reducible repeat (first | refine blk_drewN ?_ _ | refine blk_drew ?_ | refine blk_alloc ?_ _)); exact BK312.out)) : gb315 ≠ gb312)); clear HO_3; clear BK312; clear HB; have HO_3 := n0_; have BK312 := n1_; have HB := n2_; have BK315 := n3_; have GW315 := n4_; have GE315 := n5_; have NB312_315 := n6_; have NB315_312 := n7_; clear n0_ n1_ n2_ n3_ n4_ n5_ n6_ n7_; clear hb hbox hg; have hnb15 := NB315_312.out; have hnc15 := NB312_315.out; have hcz16_0 : w14.cell? ⟨gb315, 0, none⟩ = some (.int .u8 0) := (blk_cell BK315.out 0).trans rfl; have hcz16_1 : w14.cell? ⟨gb315, 1, none⟩ = some (.int .i64 0) := (blk_cell BK315.out 1).trans rfl; have hcz16_2 : w14.cell? ⟨gb315, 2, none⟩ = some (.int .i64 0) := (blk_cell BK315.out 2).trans rfl; have hcz16_3 : w14.cell? ⟨gb315, 3, none⟩ = some (.int .i64 0) := (blk_cell BK315.out 3).trans rfl; have hfz16_0 := blk_frozen BK315.out 0; have hfz16_1 := blk_frozen BK315.out 1; have hfz16_2 := blk_frozen BK315.out 2; have hfz16_3 := blk_frozen BK315.out 3))
                  repeat (go_quiet (first | ((with_reducible refine gate_dst (N := 5) rfl ?_); (try (refine gate_guard (by rfl) ?_; dsimp only)); refine box_event ?hg (N := 5) ?hd (cs := #[.int .u8 0, .int .i64 0, .int .i64 0, .int .i64 0]) (t := 47) ?hr ?_; (case hd => rfl); (case hg => rfl); (case hr => first | (go_simp; done) | (go_simp; rfl)); intro gb315 hg w14 hbox hb; have n0_ := Aside0.mk (Kd.R_below (by (with_reducible repeat (first | apply Kd.R_alloc | apply Kd.R_drewN | apply Kd.R_drew)); exact HO_3.out) hb); have n1_ := Aside0.mk (blk_below (g := gb312) (o := .cells #[.slice (some ad314) l0_0.length c0_0] 25 (0, 0)) (by (with_reducible repeat (first | refine blk_drewN ?_ _ | refine blk_drew ?_ | refine blk_alloc ?_ _)); exact BK312.out) hb); have n2_ := Aside0.mk (below_step (by repeat (first | (with_reducible first | exact HB.out | apply below_alloc | apply pw_below_drewN | apply below_drew1 | refine below_set ?_ GE312.out) | exact HB.out)) hb); have n3_ := Aside0.mk (hbox); have n4_ := Aside0.mk ((by rw [hg]; exact (below_size (by repeat (first | (with_reducible first | exact HB.out | apply below_alloc | apply pw_below_drewN | apply below_drew1 | refine below_set ?_ GE312.out) | exact HB.out))) : w.heap.size ≤ gb315)); have n5_ := Aside0.mk ((by rw [hg]; exact (below_size (by repeat (first | (with_reducible first | exact HB.out | apply below_alloc | apply pw_below_drewN | apply below_drew1 | refine below_set ?_ GE312.out) | exact HB.out))) : w.heap.size ≤ gb315)); have n6_ := Aside0.mk ((by rw [hg]; exact Nat.ne_of_lt (blk_lt (g := gb312) (o := .cells #[.slice (some ad314) l0_0.length c0_0] 25 (0, 0)) (by (with_reducible repeat (first | refine blk_drewN ?_ _ | refine blk_drew ?_ | refine blk_alloc ?_ _)); exact BK312.out)) : gb312 ≠ gb315)); have n7_ := Aside0.mk ((by rw [hg]; exact Nat.ne_of_gt (blk_lt (g := gb312) (o := .cells #[.slice (some ad314) l0_0.length c0_0] 25 (0, 0)) (by (with_reducible repeat (first | refine blk_drewN ?_ _ | refine blk_drew ?_ | refine blk_alloc ?_ _)); exact BK312.out)) : gb315 ≠ gb312)); clear HO_3; clear BK312; clear HB; have HO_3 := n0_; have BK312 := n1_; have HB := n2_; have BK315 := n3_; have GW315 := n4_; have GE315 := n5_; have NB312_315 := n6_; have NB315_312 := n7_; clear n0_ n1_ n2_ n3_ n4_ n5_ n6_ n7_; clear hb hbox hg; have hnb15 := NB315_312.out; have hnc15 := NB312_315.out; have hcz16_0 : w14.cell? ⟨gb315, 0, none⟩ = some (.int .u8 0) := (blk_cell BK315.out 0).trans rfl; have hcz16_1 : w14.cell? ⟨gb315, 1, none⟩ = some (.int .i64 0) := (blk_cell BK315.out 1).trans rfl; have hcz16_2 : w14.cell? ⟨gb315, 2, none⟩ = some (.int .i64 0) := (blk_cell BK315.out 2).trans rfl; have hcz16_3 : w14.cell? ⟨gb315, 3, none⟩ = some (.int .i64 0) := (blk_cell BK315.out 3).trans rfl; have hfz16_0 := blk_frozen BK315.out 0; have hfz16_1 := blk_frozen BK315.out 1; have hfz16_2 := blk_frozen BK315.out 2; have hfz16_3 := blk_frozen BK315.out 3)); go_upto_block 2 with (first | ((with_reducible refine gate_dst (N := 5) rfl ?_); (try (refine gate_guard (by rfl) ?_; dsimp only)); refine box_event ?hg (N := 5) ?hd (cs := #[.int .u8 0, .int .i64 0, .int .i64 0, .int .i64 0]) (t := 47) ?hr ?_; (case hd => rfl); (case hg => rfl); (case hr => first | (go_simp; done) | (go_simp; rfl)); intro gb315 hg w14 hbox hb; have n0_ := Aside0.mk (Kd.R_below (by (with_reducible repeat (first | apply Kd.R_alloc | apply Kd.R_drewN | apply Kd.R_drew)); exact HO_3.out) hb); have n1_ := Aside0.mk (blk_below (g := gb312) (o := .cells #[.slice (some ad314) l0_0.length c0_0] 25 (0, 0)) (by (with_reducible repeat (first | refine blk_drewN ?_ _ | refine blk_drew ?_ | refine blk_alloc ?_ _)); exact BK312.out) hb); have n2_ := Aside0.mk (below_step (by repeat (first | (with_reducible first | exact HB.out | apply below_alloc | apply pw_below_drewN | apply below_drew1 | refine below_set ?_ GE312.out) | exact HB.out)) hb); have n3_ := Aside0.mk (hbox); have n4_ := Aside0.mk ((by rw [hg]; exact (below_size (by repeat (first | (with_reducible first | exact HB.out | apply below_alloc | apply pw_below_drewN | apply below_drew1 | refine below_set ?_ GE312.out) | exact HB.out))) : w.heap.size ≤ gb315)); have n5_ := Aside0.mk ((by rw [hg]; exact (below_size (by repeat (first | (with_reducible first | exact HB.out | apply below_alloc | apply pw_below_drewN | apply below_drew1 | refine below_set ?_ GE312.out) | exact HB.out))) : w.heap.size ≤ gb315)); have n6_ := Aside0.mk ((by rw [hg]; exact Nat.ne_of_lt (blk_lt (g := gb312) (o := .cells #[.slice (some ad314) l0_0.length c0_0] 25 (0, 0)) (by (with_reducible repeat (first | refine blk_drewN ?_ _ | refine blk_drew ?_ | refine blk_alloc ?_ _)); exact BK312.out)) : gb312 ≠ gb315)); have n7_ := Aside0.mk ((by rw [hg]; exact Nat.ne_of_gt (blk_lt (g := gb312) (o := .cells #[.slice (some ad314) l0_0.length c0_0] 25 (0, 0)) (by (with_reducible repeat (first | refine blk_drewN ?_ _ | refine blk_drew ?_ | refine blk_alloc ?_ _)); exact BK312.out)) : gb315 ≠ gb312)); clear HO_3; clear BK312; clear HB; have HO_3 := n0_; have BK312 := n1_; have HB := n2_; have BK315 := n3_; have GW315 := n4_; have GE315 := n5_; have NB312_315 := n6_; have NB315_312 := n7_; clear n0_ n1_ n2_ n3_ n4_ n5_ n6_ n7_; clear hb hbox hg; have hnb15 := NB315_312.out; have hnc15 := NB312_315.out; have hcz16_0 : w14.cell? ⟨gb315, 0, none⟩ = some (.int .u8 0) := (blk_cell BK315.out 0).trans rfl; have hcz16_1 : w14.cell? ⟨gb315, 1, none⟩ = some (.int .i64 0) := (blk_cell BK315.out 1).trans rfl; have hcz16_2 : w14.cell? ⟨gb315, 2, none⟩ = some (.int .i64 0) := (blk_cell BK315.out 2).trans rfl; have hcz16_3 : w14.cell? ⟨gb315, 3, none⟩ = some (.int .i64 0) := (blk_cell BK315.out 3).trans rfl; have hfz16_0 := blk_frozen BK315.out 0; have hfz16_1 := blk_frozen BK315.out 1; have hfz16_2 := blk_frozen BK315.out 2; have hfz16_3 := blk_frozen BK315.out 3)))
                  (try simp only [Act.put, List.setIfInBounds_toArray, List.set_cons_zero, List.set_cons_succ])
                  go_cut [3] (fun v3 wc => ∃ (kq : Nat) (x3_12 : List Int), Aside0 (tree_shaped.j3 kq x3_12 x25_2 l0_0 (l0_0.length : Int) x25_2 l0_0 ((rd_T47 l0_0 x25_2).f0) ((rd_T47 l0_0 x25_2).f1) ((rd_T47 l0_0 x25_2).f2) ((rd_T47 l0_0 x25_2).f3) = some r) ∧ Aside0 (kq ≤ k2) ∧ Aside0 (Kd.R (Kd.int .i64) 3 wc w.heap.size (fun _ => True) v3 x3_12) ∧ Aside0 (wc.heap[gb312]? = some (.cells #[(.slice (some ad314) l0_0.length c0_0)] 25 (0, 0))) ∧ Aside0 (wc.heap[gb315]? = some (.cells #[.int .u8 ((rd_T47 l0_0 x25_2).f0), .int .i64 ((rd_T47 l0_0 x25_2).f1), .int .i64 ((rd_T47 l0_0 x25_2).f2), .int .i64 ((rd_T47 l0_0 x25_2).f3)] 47 (0, 0))) ∧ Aside0 (Below w.heap.size w wc))
                  case first =>
                    have H := HC13.out
                    clear HC13
                    have H' := Aside0.mk H
                    clear H
                    go_wp2
                    repeat (go_quiet (fail); try go_wp2)
                    go_loopg [3] k2 (fun kq v3 w' => ∃ (x3_3 : List Int), Aside0 (tree_shaped.l1 kq x3_3 x25_2 l0_0 (l0_0.length : Int) x25_2 l0_0 ((rd_T47 l0_0 x25_2).f0) ((rd_T47 l0_0 x25_2).f1) ((rd_T47 l0_0 x25_2).f2) ((rd_T47 l0_0 x25_2).f3) = some r) ∧ Aside0 (kq ≤ k2) ∧ Aside0 (Kd.R (Kd.int .i64) 3 w' w.heap.size (fun _ => True) v3 x3_3) ∧ Aside0 (w'.heap[gb312]? = some (.cells #[(.slice (some ad314) l0_0.length c0_0)] 25 (0, 0))) ∧ Aside0 (w'.heap[gb315]? = some (.cells #[.int .u8 ((rd_T47 l0_0 x25_2).f0), .int .i64 ((rd_T47 l0_0 x25_2).f1), .int .i64 ((rd_T47 l0_0 x25_2).f2), .int .i64 ((rd_T47 l0_0 x25_2).f3)] 47 (0, 0))) ∧ Aside0 (Below w.heap.size w w'))
                    case atStart => exact ⟨(x3_2), H', ⟨Nat.le_refl _⟩, ⟨by (with_reducible repeat (first | apply Kd.R_alloc | apply Kd.R_drewN | apply Kd.R_drew)); exact Kd.R_mono (Kd.R_far (p := ⟨gb315, 3, none⟩) (Kd.R_far (p := ⟨gb315, 2, none⟩) (Kd.R_far (p := ⟨gb315, 1, none⟩) (Kd.R_far (p := ⟨gb315, 0, none⟩) (Kd.R_types HO_3.out BK315.out (by decide)) (fun _ hk => hk.2) (.int .u8 ((rd_T47 l0_0 x25_2).f0))) (fun _ hk => hk.2) (.int .i64 ((rd_T47 l0_0 x25_2).f1))) (fun _ hk => hk.2) (.int .i64 ((rd_T47 l0_0 x25_2).f2))) (fun _ hk => hk.2) (.int .i64 ((rd_T47 l0_0 x25_2).f3))) (fun _ hk => trivial)⟩, ⟨by (with_reducible repeat (first | refine blk_drewN ?_ _ | refine blk_drew ?_ | refine blk_alloc ?_ _)); refine blk_far ?_ NB312_315.out _; (with_reducible repeat (first | refine blk_drewN ?_ _ | refine blk_drew ?_ | refine blk_alloc ?_ _)); refine blk_far ?_ NB312_315.out _; (with_reducible repeat (first | refine blk_drewN ?_ _ | refine blk_drew ?_ | refine blk_alloc ?_ _)); refine blk_far ?_ NB312_315.out _; (with_reducible repeat (first | refine blk_drewN ?_ _ | refine blk_drew ?_ | refine blk_alloc ?_ _)); refine blk_far ?_ NB312_315.out _; (with_reducible repeat (first | refine blk_drewN ?_ _ | refine blk_drew ?_ | refine blk_alloc ?_ _)); exact BK312.out⟩, ⟨by (with_reducible repeat (first | refine blk_drewN ?_ _ | refine blk_drew ?_ | refine blk_alloc ?_ _)); refine blk_put (cs := #[.int .u8 ((rd_T47 l0_0 x25_2).f0), .int .i64 ((rd_T47 l0_0 x25_2).f1), .int .i64 ((rd_T47 l0_0 x25_2).f2), .int .i64 0]) ?_ 3 _ rfl; (with_reducible repeat (first | refine blk_drewN ?_ _ | refine blk_drew ?_ | refine blk_alloc ?_ _)); refine blk_put (cs := #[.int .u8 ((rd_T47 l0_0 x25_2).f0), .int .i64 ((rd_T47 l0_0 x25_2).f1), .int .i64 0, .int .i64 0]) ?_ 2 _ rfl; (with_reducible repeat (first | refine blk_drewN ?_ _ | refine blk_drew ?_ | refine blk_alloc ?_ _)); refine blk_put (cs := #[.int .u8 ((rd_T47 l0_0 x25_2).f0), .int .i64 0, .int .i64 0, .int .i64 0]) ?_ 1 _ rfl; (with_reducible repeat (first | refine blk_drewN ?_ _ | refine blk_drew ?_ | refine blk_alloc ?_ _)); refine blk_put (cs := #[.int .u8 0, .int .i64 0, .int .i64 0, .int .i64 0]) ?_ 0 _ rfl; (with_reducible repeat (first | refine blk_drewN ?_ _ | refine blk_drew ?_ | refine blk_alloc ?_ _)); exact BK315.out⟩, ⟨by repeat (first | (with_reducible first | exact HB.out | apply below_alloc | apply pw_below_drewN | apply below_drew1 | refine below_set ?_ GE312.out | refine below_set ?_ GE315.out) | exact HB.out)⟩⟩
                    case round =>
                      clear H'
                      try clear c1
                      try clear p2
                      try clear p3
                      try clear q3
                      try clear hx3
                      try clear qi3
                      try clear c4
                      try clear c4b0
                      try clear c4b1
                      try clear c4b2
                      try clear c6
                      try clear c6b0
                      try clear c6b1
                      try clear c8
                      try clear c10
                      try clear c10b0
                      try clear c11
                      try clear c11b0
                      try clear c12
                      try clear c12b0
                      try clear c15
                      try clear hcz16_0
                      try clear hcz16_1
                      try clear hcz16_2
                      try clear hcz16_3
                      try clear hcz5_0
                      try clear hcz7_0
                      try clear hcz9_0
                      try clear hfz16_0
                      try clear hfz16_1
                      try clear hfz16_2
                      try clear hfz16_3
                      try clear hfz5_0
                      try clear hfz7_0
                      try clear hfz9_0
                      try clear hx313_0
                      try clear hx313_1
                      try clear hx313_2
                      try clear hx313_3
                      try clear hx314_0
                      try clear hx314_1
                      try clear hx314_2
                      try clear hx314_3
                      try clear p2
                      try clear p3
                      try clear p313
                      try clear p314
                      try clear q3
                      try clear q313
                      try clear q314
                      obtain ⟨x3_3, HA, HK3, HO_3, BK312, BK315, HB⟩ := hrel
                      cases gk with
                      | zero => exact absurd HA.out (by simp [tree_shaped.l1])
                      | succ k3 =>
                        have H := HA.out
                        clear HA
                        simp only [tree_shaped.l1] at H
                        by_cases c17 : (x3_3.length : Int) > 0
                        · rw [if_pos c17] at H
                          have c17b0 : decide (0 < (x3_3.length : Int)) = true := decide_eq_true c17
                          have c17b1 : decide (0 < x3_3.length) = true := decide_eq_true (by omega)
                          clear c17
                          (first | rw [c17b0] | (simp only [i64_w, i32_w]; rw [c17b0]) | skip)
                          obtain ⟨ji18, hji18⟩ : ∃ j_ : Int, (wrap64 ((x3_3.length : Int) - 1)) = j_ := ⟨_, rfl⟩
                          replace H : (if 0 ≤ (ji18) then (if (ji18) < (x3_3.length : Int) then (if (rd x3_3 (ji18)) = x25_2 then (if (ji18) ≤ (x3_3.length : Int) then (tree_shaped.l1 k3 (x3_3.take ((ji18) : Int).toNat) x25_2 l0_0 (l0_0.length : Int) x25_2 l0_0 ((rd_T47 l0_0 x25_2).f0) ((rd_T47 l0_0 x25_2).f1) ((rd_T47 l0_0 x25_2).f2) ((rd_T47 l0_0 x25_2).f3)) else (none)) else (tree_shaped.j3 k3 x3_3 x25_2 l0_0 (l0_0.length : Int) x25_2 l0_0 ((rd_T47 l0_0 x25_2).f0) ((rd_T47 l0_0 x25_2).f1) ((rd_T47 l0_0 x25_2).f2) ((rd_T47 l0_0 x25_2).f3))) else (none)) else (none)) = some r := by first | (rw [hji18] at H; exact H) | (simp only [hji18] at H ⊢; exact H)
                          have hji18w : (IntKind.i64.wrap ((x3_3.length : Int) - 1)) = ji18 := (i64_w _).trans hji18
                          by_cases c19 : 0 ≤ (ji18)
                          · rw [if_pos c19] at H
                            have c19b0 : decide (0 ≤ (ji18)) = true := decide_eq_true c19
                            clear c19
                            by_cases c20 : (ji18) < (x3_3.length : Int)
                            · rw [if_pos c20] at H
                              have c20b0 : decide ((ji18) < (x3_3.length : Int)) = true := decide_eq_true c20
                              clear c20
                              by_cases c21 : (rd x3_3 (ji18)) = x25_2
                              · rw [if_pos c21] at H
                                have c21b0 : ((rd x3_3 (ji18)) == x25_2) = true := beq_iff_eq.mpr c21
                                have c21b1 : ((rd x3_3 (ji18)) != x25_2) = false := bne_eq_false_iff_eq.mpr c21
                                clear c21
                                by_cases c22 : (ji18) ≤ (x3_3.length : Int)
                                · rw [if_pos c22] at H
                                  have c22b0 := eq_true c22
                                  have c22b1 : decide ((ji18) ≤ (x3_3.length : Int)) = true := decide_eq_true c22
                                  clear c22
                                  obtain ⟨y317, hy317⟩ : ∃ y_ : List Int, y_ = (x3_3.take ((ji18) : Int).toNat) := ⟨_, rfl⟩
                                  replace H : (tree_shaped.l1 k3 y317 x25_2 l0_0 (l0_0.length : Int) x25_2 l0_0 ((rd_T47 l0_0 x25_2).f0) ((rd_T47 l0_0 x25_2).f1) ((rd_T47 l0_0 x25_2).f2) ((rd_T47 l0_0 x25_2).f3)) = some r := by first | (rw [hy317]; with_reducible exact H) | (have H2_ := (Option.bind_some _ _).symm.trans H; rw [hy317]; with_reducible exact H2_) | (have H2_ := (Option.bind_some _ _).symm.trans H; with_reducible exact H2_) | with_reducible exact H | (rw [hy317]; exact H) | exact H
                                  have Ny317 := Aside0.mk hy317
                                  clear hy317
                                  have H' := Aside0.mk H
                                  clear H
                                  obtain ⟨Ao23, co23, eo23⟩ := Kd.R_slice HO_3.out
                                  subst eo23
                                  have p316 : 0 ≤ ((ji18) : Int) := of_decide_eq_true (by first | (with_reducible assumption) | assumption)
                                  have q316 : (ji18) < (x3_3.length : Int) := of_decide_eq_true (by first | (with_reducible assumption) | assumption)
                                  obtain ⟨ad316, e316, hx316_0⟩ := Kd.at_int (Kd.R_reads' HO_3.out).2.2 (ji18) p316 q316
                                  cases e316
                                  replace p316 := eq_true p316
                                  replace q316 := eq_true q316
                                  have q24 : ((ji18) : Int) ≤ ((x3_3.length : Int) : Int) := of_decide_eq_true (by first | (with_reducible assumption) | assumption)
                                  obtain ⟨i024, hi024, _, hsz24, _⟩ := info_parts info3
                                  have hcut24 := cut_to (P := Try.prog) 33 3 .i64 Try.underlying33 hi024 (some ad316) x3_3.length co23 (ji18) (of_decide_eq_true (by first | (with_reducible assumption) | assumption)) q24 (Kd.R_reads' HO_3.out).2.1
                                  have hr24 := Kd.R_take (m := ((ji18) : Int).toNat) HO_3.out (by omega)
                                  have hy24 : y317.length = ((ji18) : Int).toNat := (by rw [Ny317.out, List.length_take]; omega)
                                  rw [← Ny317.out] at hr24
                                  rw [← hy24] at hr24 hcut24
                                  clear hy24 hi024 hsz24 HO_3
                                  have HO319 := Aside0.mk hr24
                                  clear hr24
                                  replace q24 := eq_true q24
                                  go_wp2
                                  repeat (go_quiet (fail); try go_wp2)
                                  go_roundg k3
                                  case measure => have := HJ1.out; have := HK2.out; have := HK3.out; omega
                                  case rel => exact ⟨(y317), H', ⟨by have := HJ1.out; have := HK2.out; have := HK3.out; omega⟩, ⟨by (with_reducible repeat (first | apply Kd.R_alloc | apply Kd.R_drewN | apply Kd.R_drew)); exact HO319.out⟩, ⟨by (with_reducible repeat (first | refine blk_drewN ?_ _ | refine blk_drew ?_ | refine blk_alloc ?_ _)); exact BK312.out⟩, ⟨by (with_reducible repeat (first | refine blk_drewN ?_ _ | refine blk_drew ?_ | refine blk_alloc ?_ _)); exact BK315.out⟩, ⟨by repeat (first | (with_reducible first | exact HB.out | apply below_alloc | apply pw_below_drewN | apply below_drew1 | refine below_set ?_ GE312.out | refine below_set ?_ GE315.out) | exact HB.out)⟩⟩
                                · rw [if_neg c22] at H
                                  exact absurd H (by simp)
                              · rw [if_neg c21] at H
                                have c21b0 : ((rd x3_3 (ji18)) == x25_2) = false := beq_eq_false_iff_ne.mpr c21
                                have c21b1 : ((rd x3_3 (ji18)) != x25_2) = true := bne_iff_ne.mpr c21
                                have H' := Aside0.mk H
                                clear H
                                obtain ⟨Ao25, co25, eo25⟩ := Kd.R_slice HO_3.out
                                subst eo25
                                have p316 : 0 ≤ ((ji18) : Int) := of_decide_eq_true (by first | (with_reducible assumption) | assumption)
                                have q316 : (ji18) < (x3_3.length : Int) := of_decide_eq_true (by first | (with_reducible assumption) | assumption)
                                obtain ⟨ad316, e316, hx316_0⟩ := Kd.at_int (Kd.R_reads' HO_3.out).2.2 (ji18) p316 q316
                                cases e316
                                replace p316 := eq_true p316
                                replace q316 := eq_true q316
                                go_wp2
                                repeat (go_quiet (fail); try go_wp2)
                                go_meet
                                case rel => exact ⟨_, (x3_3), H', ⟨by have := HJ1.out; have := HK2.out; have := HK3.out; first | omega | exact Nat.le_refl _⟩, ⟨by (with_reducible repeat (first | apply Kd.R_alloc | apply Kd.R_drewN | apply Kd.R_drew)); exact HO_3.out⟩, ⟨by (with_reducible repeat (first | refine blk_drewN ?_ _ | refine blk_drew ?_ | refine blk_alloc ?_ _)); exact BK312.out⟩, ⟨by (with_reducible repeat (first | refine blk_drewN ?_ _ | refine blk_drew ?_ | refine blk_alloc ?_ _)); exact BK315.out⟩, ⟨by repeat (first | (with_reducible first | exact HB.out | apply below_alloc | apply pw_below_drewN | apply below_drew1 | refine below_set ?_ GE312.out | refine below_set ?_ GE315.out) | exact HB.out)⟩⟩
                            · rw [if_neg c20] at H
                              exact absurd H (by simp)
                          · rw [if_neg c19] at H
                            exact absurd H (by simp)
                        · rw [if_neg c17] at H
                          have c17b0 : decide (0 < (x3_3.length : Int)) = false := decide_eq_false c17
                          have c17b1 : decide (0 < x3_3.length) = false := decide_eq_false (by omega)
                          clear c17
                          (first | rw [c17b0] | (simp only [i64_w, i32_w]; rw [c17b0]) | skip)
                          have H' := Aside0.mk H
                          clear H
                          obtain ⟨Ao26, co26, eo26⟩ := Kd.R_slice HO_3.out
                          subst eo26
                          go_wp2
                          repeat (go_quiet (fail); try go_wp2)
                          go_meet
                          case rel => exact ⟨_, (x3_3), H', ⟨by have := HJ1.out; have := HK2.out; have := HK3.out; first | omega | exact Nat.le_refl _⟩, ⟨by (with_reducible repeat (first | apply Kd.R_alloc | apply Kd.R_drewN | apply Kd.R_drew)); exact HO_3.out⟩, ⟨by (with_reducible repeat (first | refine blk_drewN ?_ _ | refine blk_drew ?_ | refine blk_alloc ?_ _)); exact BK312.out⟩, ⟨by (with_reducible repeat (first | refine blk_drewN ?_ _ | refine blk_drew ?_ | refine blk_alloc ?_ _)); exact BK315.out⟩, ⟨by repeat (first | (with_reducible first | exact HB.out | apply below_alloc | apply pw_below_drewN | apply below_drew1 | refine below_set ?_ GE312.out | refine below_set ?_ GE315.out) | exact HB.out)⟩⟩
                  case rest =>
                    clear HC13
                    try clear c1
                    try clear c2
                    try clear p2
                    try clear q2
                    try clear p3
                    try clear q3
                    try clear hx3
                    try clear qi3
                    try clear c4
                    try clear c4b0
                    try clear c4b1
                    try clear c4b2
                    try clear c6
                    try clear c6b0
                    try clear c6b1
                    try clear p6
                    try clear c8
                    try clear c10
                    try clear c10b0
                    try clear c11
                    try clear c11b0
                    try clear c12
                    try clear c12b0
                    try clear c15
                    try clear c17
                    try clear c17b0
                    try clear c17b1
                    try clear c19
                    try clear c19b0
                    try clear c20
                    try clear c20b0
                    try clear c21
                    try clear c21b0
                    try clear c21b1
                    try clear c22
                    try clear c22b0
                    try clear c22b1
                    try clear q24
                    try clear hcz16_0
                    try clear hcz16_1
                    try clear hcz16_2
                    try clear hcz16_3
                    try clear hcz5_0
                    try clear hcz7_0
                    try clear hcz9_0
                    try clear hfz16_0
                    try clear hfz16_1
                    try clear hfz16_2
                    try clear hfz16_3
                    try clear hfz5_0
                    try clear hfz7_0
                    try clear hfz9_0
                    try clear hx313_0
                    try clear hx313_1
                    try clear hx313_2
                    try clear hx313_3
                    try clear hx314_0
                    try clear hx314_1
                    try clear hx314_2
                    try clear hx314_3
                    try clear hx316_0
                    try clear p2
                    try clear p3
                    try clear p313
                    try clear p314
                    try clear p316
                    try clear q24
                    try clear q3
                    try clear q313
                    try clear q314
                    try clear q316
                    obtain ⟨kq, x3_12, HA, HJ12, HO_3, BK312, BK315, HB⟩ := hcut
                    cases kq with
                    | zero => exact absurd HA.out (by simp [tree_shaped.j3])
                    | succ kj12 =>
                      have H := HA.out
                      clear HA
                      simp only [tree_shaped.j3] at H
                      by_cases c27 : (x3_12.length : Int) > 0
                      · rw [if_pos c27] at H
                        have c27b0 : decide (0 < (x3_12.length : Int)) = true := decide_eq_true c27
                        have c27b1 : decide (0 < x3_12.length) = true := decide_eq_true (by omega)
                        clear c27
                        obtain ⟨ji28, hji28⟩ : ∃ j_ : Int, (wrap64 ((x3_12.length : Int) - 1)) = j_ := ⟨_, rfl⟩
                        replace H : (if 0 ≤ (ji28) then (if (ji28) < (x3_12.length : Int) then (if ((rd_T47 l0_0 x25_2).f0) ≥ 58 then (some false) else (if ((rd_T47 l0_0 x25_2).f3) < 1 then (some false) else (if ((rd_T47 l0_0 x25_2).f3) > (wrap64 ((rd x3_12 (ji28)) - x25_2)) then (some false) else (if x3_12.length < 17592186044416 then (tree_shaped.l0 kj12 (x3_12 ++ [wrap64 (x25_2 + ((rd_T47 l0_0 x25_2).f3))]) l0_0 (l0_0.length : Int) (wrap64 (x25_2 + 1)) l0_0) else (none))))) else (none)) else (none)) = some r := by first | (rw [hji28] at H; exact H) | (simp only [hji28] at H ⊢; exact H)
                        have hji28w : (IntKind.i64.wrap ((x3_12.length : Int) - 1)) = ji28 := (i64_w _).trans hji28
                        by_cases c29 : 0 ≤ (ji28)
                        · rw [if_pos c29] at H
                          have c29b0 : decide (0 ≤ (ji28)) = true := decide_eq_true c29
                          clear c29
                          by_cases c30 : (ji28) < (x3_12.length : Int)
                          · rw [if_pos c30] at H
                            have c30b0 : decide ((ji28) < (x3_12.length : Int)) = true := decide_eq_true c30
                            clear c30
                            by_cases c31 : ((rd_T47 l0_0 x25_2).f0) ≥ 58
                            · rw [if_pos c31] at H
                              have c31b0 : decide (58 ≤ ((rd_T47 l0_0 x25_2).f0)) = true := decide_eq_true c31
                              clear c31
                              obtain rfl := Option.some.inj H
                              have hnb32 := NB312_315.out
                              have hnc32 := NB315_312.out
                              have hcz33_0 : wc.cell? ⟨gb312, 0, none⟩ = some (.slice (some ad314) l0_0.length c0_0) := (blk_cell BK312.out 0).trans rfl
                              have hfz33_0 := blk_frozen BK312.out 0
                              obtain ⟨Ao34, co34, eo34⟩ := Kd.R_slice HO_3.out
                              subst eo34
                              have p320 : 0 ≤ ((ji28) : Int) := of_decide_eq_true (by first | (with_reducible assumption) | assumption)
                              have q320 : (ji28) < (x3_12.length : Int) := of_decide_eq_true (by first | (with_reducible assumption) | assumption)
                              obtain ⟨ad320, e320, hx320_0⟩ := Kd.at_int (Kd.R_reads' HO_3.out).2.2 (ji28) p320 q320
                              cases e320
                              replace p320 := eq_true p320
                              replace q320 := eq_true q320
                              have hcz35_0 : wc.cell? ⟨gb315, 0, none⟩ = some (.int .u8 ((rd_T47 l0_0 x25_2).f0)) := (blk_cell BK315.out 0).trans rfl
                              have hcz35_1 : wc.cell? ⟨gb315, 1, none⟩ = some (.int .i64 ((rd_T47 l0_0 x25_2).f1)) := (blk_cell BK315.out 1).trans rfl
                              have hcz35_2 : wc.cell? ⟨gb315, 2, none⟩ = some (.int .i64 ((rd_T47 l0_0 x25_2).f2)) := (blk_cell BK315.out 2).trans rfl
                              have hcz35_3 : wc.cell? ⟨gb315, 3, none⟩ = some (.int .i64 ((rd_T47 l0_0 x25_2).f3)) := (blk_cell BK315.out 3).trans rfl
                              have hfz35_0 := blk_frozen BK315.out 0
                              have hfz35_1 := blk_frozen BK315.out 1
                              have hfz35_2 := blk_frozen BK315.out 2
                              have hfz35_3 := blk_frozen BK315.out 3
                              go_wp2
                              repeat (go_quiet (fail); try go_wp2)
                              go_ret
                              exact ⟨by first | rfl | (simp [errW_none, errW_some] <;> rfl) | (simp only [← hji28]; first | rfl | (simp [errW_none, errW_some] <;> rfl)) | (simp [*, errW_none, errW_some] <;> rfl), by repeat (first | (with_reducible first | exact HB.out | apply below_alloc | apply pw_below_drewN | apply below_drew1 | refine below_set ?_ GE312.out | refine below_set ?_ GE315.out) | exact HB.out)⟩
                            · rw [if_neg c31] at H
                              have c31b0 : decide (58 ≤ ((rd_T47 l0_0 x25_2).f0)) = false := decide_eq_false c31
                              clear c31
                              by_cases c36 : ((rd_T47 l0_0 x25_2).f3) < 1
                              · rw [if_pos c36] at H
                                have c36b0 : decide (((rd_T47 l0_0 x25_2).f3) < 1) = true := decide_eq_true c36
                                clear c36
                                obtain rfl := Option.some.inj H
                                have hnb37 := NB312_315.out
                                have hnc37 := NB315_312.out
                                have hcz38_0 : wc.cell? ⟨gb312, 0, none⟩ = some (.slice (some ad314) l0_0.length c0_0) := (blk_cell BK312.out 0).trans rfl
                                have hfz38_0 := blk_frozen BK312.out 0
                                obtain ⟨Ao39, co39, eo39⟩ := Kd.R_slice HO_3.out
                                subst eo39
                                have p320 : 0 ≤ ((ji28) : Int) := of_decide_eq_true (by first | (with_reducible assumption) | assumption)
                                have q320 : (ji28) < (x3_12.length : Int) := of_decide_eq_true (by first | (with_reducible assumption) | assumption)
                                obtain ⟨ad320, e320, hx320_0⟩ := Kd.at_int (Kd.R_reads' HO_3.out).2.2 (ji28) p320 q320
                                cases e320
                                replace p320 := eq_true p320
                                replace q320 := eq_true q320
                                have hcz40_0 : wc.cell? ⟨gb315, 0, none⟩ = some (.int .u8 ((rd_T47 l0_0 x25_2).f0)) := (blk_cell BK315.out 0).trans rfl
                                have hcz40_1 : wc.cell? ⟨gb315, 1, none⟩ = some (.int .i64 ((rd_T47 l0_0 x25_2).f1)) := (blk_cell BK315.out 1).trans rfl
                                have hcz40_2 : wc.cell? ⟨gb315, 2, none⟩ = some (.int .i64 ((rd_T47 l0_0 x25_2).f2)) := (blk_cell BK315.out 2).trans rfl
                                have hcz40_3 : wc.cell? ⟨gb315, 3, none⟩ = some (.int .i64 ((rd_T47 l0_0 x25_2).f3)) := (blk_cell BK315.out 3).trans rfl
                                have hfz40_0 := blk_frozen BK315.out 0
                                have hfz40_1 := blk_frozen BK315.out 1
                                have hfz40_2 := blk_frozen BK315.out 2
                                have hfz40_3 := blk_frozen BK315.out 3
                                go_wp2
                                repeat (go_quiet (fail); try go_wp2)
                                go_ret
                                exact ⟨by first | rfl | (simp [errW_none, errW_some] <;> rfl) | (simp only [← hji28]; first | rfl | (simp [errW_none, errW_some] <;> rfl)) | (simp [*, errW_none, errW_some] <;> rfl), by repeat (first | (with_reducible first | exact HB.out | apply below_alloc | apply pw_below_drewN | apply below_drew1 | refine below_set ?_ GE312.out | refine below_set ?_ GE315.out) | exact HB.out)⟩
                              · rw [if_neg c36] at H
                                have c36b0 : decide (((rd_T47 l0_0 x25_2).f3) < 1) = false := decide_eq_false c36
                                clear c36
                                by_cases c41 : ((rd_T47 l0_0 x25_2).f3) > (wrap64 ((rd x3_12 (ji28)) - x25_2))
                                · rw [if_pos c41] at H
                                  have c41b0 : decide ((wrap64 ((rd x3_12 (ji28)) - x25_2)) < ((rd_T47 l0_0 x25_2).f3)) = true := decide_eq_true c41
                                  clear c41
                                  obtain rfl := Option.some.inj H
                                  have hnb42 := NB312_315.out
                                  have hnc42 := NB315_312.out
                                  have hcz43_0 : wc.cell? ⟨gb312, 0, none⟩ = some (.slice (some ad314) l0_0.length c0_0) := (blk_cell BK312.out 0).trans rfl
                                  have hfz43_0 := blk_frozen BK312.out 0
                                  obtain ⟨Ao44, co44, eo44⟩ := Kd.R_slice HO_3.out
                                  subst eo44
                                  have p320 : 0 ≤ ((ji28) : Int) := of_decide_eq_true (by first | (with_reducible assumption) | assumption)
                                  have q320 : (ji28) < (x3_12.length : Int) := of_decide_eq_true (by first | (with_reducible assumption) | assumption)
                                  obtain ⟨ad320, e320, hx320_0⟩ := Kd.at_int (Kd.R_reads' HO_3.out).2.2 (ji28) p320 q320
                                  cases e320
                                  replace p320 := eq_true p320
                                  replace q320 := eq_true q320
                                  have hcz45_0 : wc.cell? ⟨gb315, 0, none⟩ = some (.int .u8 ((rd_T47 l0_0 x25_2).f0)) := (blk_cell BK315.out 0).trans rfl
                                  have hcz45_1 : wc.cell? ⟨gb315, 1, none⟩ = some (.int .i64 ((rd_T47 l0_0 x25_2).f1)) := (blk_cell BK315.out 1).trans rfl
                                  have hcz45_2 : wc.cell? ⟨gb315, 2, none⟩ = some (.int .i64 ((rd_T47 l0_0 x25_2).f2)) := (blk_cell BK315.out 2).trans rfl
                                  have hcz45_3 : wc.cell? ⟨gb315, 3, none⟩ = some (.int .i64 ((rd_T47 l0_0 x25_2).f3)) := (blk_cell BK315.out 3).trans rfl
                                  have hfz45_0 := blk_frozen BK315.out 0
                                  have hfz45_1 := blk_frozen BK315.out 1
                                  have hfz45_2 := blk_frozen BK315.out 2
                                  have hfz45_3 := blk_frozen BK315.out 3
                                  go_wp2
                                  repeat (go_quiet (fail); try go_wp2)
                                  go_ret
                                  exact ⟨by first | rfl | (simp [errW_none, errW_some] <;> rfl) | (simp only [← hji28]; first | rfl | (simp [errW_none, errW_some] <;> rfl)) | (simp [*, errW_none, errW_some] <;> rfl), by repeat (first | (with_reducible first | exact HB.out | apply below_alloc | apply pw_below_drewN | apply below_drew1 | refine below_set ?_ GE312.out | refine below_set ?_ GE315.out) | exact HB.out)⟩
                                · rw [if_neg c41] at H
                                  have c41b0 : decide ((wrap64 ((rd x3_12 (ji28)) - x25_2)) < ((rd_T47 l0_0 x25_2).f3)) = false := decide_eq_false c41
                                  clear c41
                                  by_cases c46 : x3_12.length < 17592186044416
                                  · rw [if_pos c46] at H
                                    have LMc46 := Aside0.mk c46
                                    clear c46
                                    obtain ⟨y321, hy321⟩ : ∃ y_ : List Int, y_ = (x3_12 ++ [wrap64 (x25_2 + ((rd_T47 l0_0 x25_2).f3))]) := ⟨_, rfl⟩
                                    replace H : (tree_shaped.l0 kj12 y321 l0_0 (l0_0.length : Int) (wrap64 (x25_2 + 1)) l0_0) = some r := by first | (rw [hy321]; with_reducible exact H) | (have H2_ := (Option.bind_some _ _).symm.trans H; rw [hy321]; with_reducible exact H2_) | (have H2_ := (Option.bind_some _ _).symm.trans H; with_reducible exact H2_) | with_reducible exact H | (rw [hy321]; exact H) | exact H
                                    have Ny321 := Aside0.mk hy321
                                    clear hy321
                                    have H' := Aside0.mk H
                                    clear H
                                    have hnb47 := NB312_315.out
                                    have hnc47 := NB315_312.out
                                    have hcz48_0 : wc.cell? ⟨gb312, 0, none⟩ = some (.slice (some ad314) l0_0.length c0_0) := (blk_cell BK312.out 0).trans rfl
                                    have hfz48_0 := blk_frozen BK312.out 0
                                    obtain ⟨Ao49, co49, eo49⟩ := Kd.R_slice HO_3.out
                                    subst eo49
                                    have p320 : 0 ≤ ((ji28) : Int) := of_decide_eq_true (by first | (with_reducible assumption) | assumption)
                                    have q320 : (ji28) < (x3_12.length : Int) := of_decide_eq_true (by first | (with_reducible assumption) | assumption)
                                    obtain ⟨ad320, e320, hx320_0⟩ := Kd.at_int (Kd.R_reads' HO_3.out).2.2 (ji28) p320 q320
                                    cases e320
                                    replace p320 := eq_true p320
                                    replace q320 := eq_true q320
                                    have hcz50_0 : wc.cell? ⟨gb315, 0, none⟩ = some (.int .u8 ((rd_T47 l0_0 x25_2).f0)) := (blk_cell BK315.out 0).trans rfl
                                    have hcz50_1 : wc.cell? ⟨gb315, 1, none⟩ = some (.int .i64 ((rd_T47 l0_0 x25_2).f1)) := (blk_cell BK315.out 1).trans rfl
                                    have hcz50_2 : wc.cell? ⟨gb315, 2, none⟩ = some (.int .i64 ((rd_T47 l0_0 x25_2).f2)) := (blk_cell BK315.out 2).trans rfl
                                    have hcz50_3 : wc.cell? ⟨gb315, 3, none⟩ = some (.int .i64 ((rd_T47 l0_0 x25_2).f3)) := (blk_cell BK315.out 3).trans rfl
                                    have hfz50_0 := blk_frozen BK315.out 0
                                    have hfz50_1 := blk_frozen BK315.out 1
                                    have hfz50_2 := blk_frozen BK315.out 2
                                    have hfz50_3 := blk_frozen BK315.out 3
                                    go_wp2_with (first | ((with_reducible refine gate_builtin (b := .append) (xs := #[.tmp 76, .tmp 81]) rfl ?_); (try (refine gate_guard (by rfl) ?_; dsimp only)); at_builtin; refine Kd.R_append (Kd.int .i64) (w0 := w) w.heap.size rfl (.tmp 76) (.tmp 81) 33 3 (.int .i64 0) 8 rfl Try.underlying33 info3 rfl (by decide) (by omega) (.slice (some ad320) x3_12.length co49) x3_12 (wrap64 (x25_2 + ((rd_T47 l0_0 x25_2).f3))) [.int .i64 (wrap64 (x25_2 + ((rd_T47 l0_0 x25_2).f3)))] (fun _ => True) (fun _ => False) rfl rfl ?aP (fun _ hk => hk.elim) ?aF ?aO ?aB ?aS ?aL ?_; (case aP => exact rfl); (case aB => exact (by repeat (first | (with_reducible first | exact HB.out | apply below_alloc | apply pw_below_drewN | apply below_drew1 | refine below_set ?_ GE312.out | refine below_set ?_ GE315.out) | exact HB.out))); (case aF => exact (fun _ _ => trivial)); (case aO => exact (by (with_reducible repeat (first | apply Kd.R_alloc | apply Kd.R_drewN | apply Kd.R_drew)); exact HO_3.out)); (case aS => exact (below_size (by repeat (first | (with_reducible first | exact HB.out | apply below_alloc | apply pw_below_drewN | apply below_drew1 | refine below_set ?_ GE312.out | refine below_set ?_ GE315.out) | exact HB.out)))); (case aL => have := LMc46.out; omega); intro v322 w51 ho hb hg hat; rw [← Ny321.out] at ho; have n0_ := Aside0.mk (blk_grown (g := gb312) (o := .cells #[.slice (some ad314) l0_0.length c0_0] 25 (0, 0)) (by (with_reducible repeat (first | refine blk_drewN ?_ _ | refine blk_drew ?_ | refine blk_alloc ?_ _)); exact BK312.out) hg (Kd.R_ne HO_3.out BK312.out (by decide))); have n1_ := Aside0.mk (blk_grown (g := gb315) (o := .cells #[.int .u8 ((rd_T47 l0_0 x25_2).f0), .int .i64 ((rd_T47 l0_0 x25_2).f1), .int .i64 ((rd_T47 l0_0 x25_2).f2), .int .i64 ((rd_T47 l0_0 x25_2).f3)] 47 (0, 0)) (by (with_reducible repeat (first | refine blk_drewN ?_ _ | refine blk_drew ?_ | refine blk_alloc ?_ _)); exact BK315.out) hg (Kd.R_ne HO_3.out BK315.out (by decide))); have n2_ := Aside0.mk (hb); have n3_ := Aside0.mk (ho); clear BK312; clear BK315; clear HB; clear HO_3; have BK312 := n0_; have BK315 := n1_; have HB := n2_; have HO323 := n3_; clear n0_ n1_ n2_ n3_; clear ho hb hg hat))
                                    repeat (go_quiet (first | ((with_reducible refine gate_builtin (b := .append) (xs := #[.tmp 76, .tmp 81]) rfl ?_); (try (refine gate_guard (by rfl) ?_; dsimp only)); at_builtin; refine Kd.R_append (Kd.int .i64) (w0 := w) w.heap.size rfl (.tmp 76) (.tmp 81) 33 3 (.int .i64 0) 8 rfl Try.underlying33 info3 rfl (by decide) (by omega) (.slice (some ad320) x3_12.length co49) x3_12 (wrap64 (x25_2 + ((rd_T47 l0_0 x25_2).f3))) [.int .i64 (wrap64 (x25_2 + ((rd_T47 l0_0 x25_2).f3)))] (fun _ => True) (fun _ => False) rfl rfl ?aP (fun _ hk => hk.elim) ?aF ?aO ?aB ?aS ?aL ?_; (case aP => exact rfl); (case aB => exact (by repeat (first | (with_reducible first | exact HB.out | apply below_alloc | apply pw_below_drewN | apply below_drew1 | refine below_set ?_ GE312.out | refine below_set ?_ GE315.out) | exact HB.out))); (case aF => exact (fun _ _ => trivial)); (case aO => exact (by (with_reducible repeat (first | apply Kd.R_alloc | apply Kd.R_drewN | apply Kd.R_drew)); exact HO_3.out)); (case aS => exact (below_size (by repeat (first | (with_reducible first | exact HB.out | apply below_alloc | apply pw_below_drewN | apply below_drew1 | refine below_set ?_ GE312.out | refine below_set ?_ GE315.out) | exact HB.out)))); (case aL => have := LMc46.out; omega); intro v322 w51 ho hb hg hat; rw [← Ny321.out] at ho; have n0_ := Aside0.mk (blk_grown (g := gb312) (o := .cells #[.slice (some ad314) l0_0.length c0_0] 25 (0, 0)) (by (with_reducible repeat (first | refine blk_drewN ?_ _ | refine blk_drew ?_ | refine blk_alloc ?_ _)); exact BK312.out) hg (Kd.R_ne HO_3.out BK312.out (by decide))); have n1_ := Aside0.mk (blk_grown (g := gb315) (o := .cells #[.int .u8 ((rd_T47 l0_0 x25_2).f0), .int .i64 ((rd_T47 l0_0 x25_2).f1), .int .i64 ((rd_T47 l0_0 x25_2).f2), .int .i64 ((rd_T47 l0_0 x25_2).f3)] 47 (0, 0)) (by (with_reducible repeat (first | refine blk_drewN ?_ _ | refine blk_drew ?_ | refine blk_alloc ?_ _)); exact BK315.out) hg (Kd.R_ne HO_3.out BK315.out (by decide))); have n2_ := Aside0.mk (hb); have n3_ := Aside0.mk (ho); clear BK312; clear BK315; clear HB; clear HO_3; have BK312 := n0_; have BK315 := n1_; have HB := n2_; have HO323 := n3_; clear n0_ n1_ n2_ n3_; clear ho hb hg hat)); try go_wp2_with (first | ((with_reducible refine gate_builtin (b := .append) (xs := #[.tmp 76, .tmp 81]) rfl ?_); (try (refine gate_guard (by rfl) ?_; dsimp only)); at_builtin; refine Kd.R_append (Kd.int .i64) (w0 := w) w.heap.size rfl (.tmp 76) (.tmp 81) 33 3 (.int .i64 0) 8 rfl Try.underlying33 info3 rfl (by decide) (by omega) (.slice (some ad320) x3_12.length co49) x3_12 (wrap64 (x25_2 + ((rd_T47 l0_0 x25_2).f3))) [.int .i64 (wrap64 (x25_2 + ((rd_T47 l0_0 x25_2).f3)))] (fun _ => True) (fun _ => False) rfl rfl ?aP (fun _ hk => hk.elim) ?aF ?aO ?aB ?aS ?aL ?_; (case aP => exact rfl); (case aB => exact (by repeat (first | (with_reducible first | exact HB.out | apply below_alloc | apply pw_below_drewN | apply below_drew1 | refine below_set ?_ GE312.out | refine below_set ?_ GE315.out) | exact HB.out))); (case aF => exact (fun _ _ => trivial)); (case aO => exact (by (with_reducible repeat (first | apply Kd.R_alloc | apply Kd.R_drewN | apply Kd.R_drew)); exact HO_3.out)); (case aS => exact (below_size (by repeat (first | (with_reducible first | exact HB.out | apply below_alloc | apply pw_below_drewN | apply below_drew1 | refine below_set ?_ GE312.out | refine below_set ?_ GE315.out) | exact HB.out)))); (case aL => have := LMc46.out; omega); intro v322 w51 ho hb hg hat; rw [← Ny321.out] at ho; have n0_ := Aside0.mk (blk_grown (g := gb312) (o := .cells #[.slice (some ad314) l0_0.length c0_0] 25 (0, 0)) (by (with_reducible repeat (first | refine blk_drewN ?_ _ | refine blk_drew ?_ | refine blk_alloc ?_ _)); exact BK312.out) hg (Kd.R_ne HO_3.out BK312.out (by decide))); have n1_ := Aside0.mk (blk_grown (g := gb315) (o := .cells #[.int .u8 ((rd_T47 l0_0 x25_2).f0), .int .i64 ((rd_T47 l0_0 x25_2).f1), .int .i64 ((rd_T47 l0_0 x25_2).f2), .int .i64 ((rd_T47 l0_0 x25_2).f3)] 47 (0, 0)) (by (with_reducible repeat (first | refine blk_drewN ?_ _ | refine blk_drew ?_ | refine blk_alloc ?_ _)); exact BK315.out) hg (Kd.R_ne HO_3.out BK315.out (by decide))); have n2_ := Aside0.mk (hb); have n3_ := Aside0.mk (ho); clear BK312; clear BK315; clear HB; clear HO_3; have BK312 := n0_; have BK315 := n1_; have HB := n2_; have HO323 := n3_; clear n0_ n1_ n2_ n3_; clear ho hb hg hat)))
                                    go_roundg kj12
                                    case measure => have := HJ1.out; have := HK2.out; have := HJ12.out; omega
                                    case rel => exact ⟨(y321), (wrap64 (x25_2 + 1)), (by first | rfl | (simp; done) | (simp [*]; done)), H', ⟨by have := HJ1.out; have := HK2.out; have := HJ12.out; omega⟩, ⟨by (with_reducible repeat (first | apply Kd.R_alloc | apply Kd.R_drewN | apply Kd.R_drew)); exact HO323.out⟩, ⟨by (with_reducible repeat (first | refine blk_drewN ?_ _ | refine blk_drew ?_ | refine blk_alloc ?_ _)); exact BK312.out⟩, ⟨by repeat (first | (with_reducible first | exact HB.out | apply below_alloc | apply pw_below_drewN | apply below_drew1 | refine below_set ?_ GE312.out | refine below_set ?_ GE315.out) | exact HB.out)⟩⟩
                                  · rw [if_neg c46] at H
                                    exact absurd H (by simp)
                          · rw [if_neg c30] at H
                            exact absurd H (by simp)
                        · rw [if_neg c29] at H
                          exact absurd H (by simp)
                      · rw [if_neg c27] at H
                        have c27b0 : decide (0 < (x3_12.length : Int)) = false := decide_eq_false c27
                        have c27b1 : decide (0 < x3_12.length) = false := decide_eq_false (by omega)
                        clear c27
                        by_cases c52 : ((rd_T47 l0_0 x25_2).f0) ≥ 58
                        · rw [if_pos c52] at H
                          have c52b0 : decide (58 ≤ ((rd_T47 l0_0 x25_2).f0)) = true := decide_eq_true c52
                          clear c52
                          obtain rfl := Option.some.inj H
                          have hnb53 := NB312_315.out
                          have hnc53 := NB315_312.out
                          have hcz54_0 : wc.cell? ⟨gb312, 0, none⟩ = some (.slice (some ad314) l0_0.length c0_0) := (blk_cell BK312.out 0).trans rfl
                          have hfz54_0 := blk_frozen BK312.out 0
                          obtain ⟨Ao55, co55, eo55⟩ := Kd.R_slice HO_3.out
                          subst eo55
                          have hcz56_0 : wc.cell? ⟨gb315, 0, none⟩ = some (.int .u8 ((rd_T47 l0_0 x25_2).f0)) := (blk_cell BK315.out 0).trans rfl
                          have hcz56_1 : wc.cell? ⟨gb315, 1, none⟩ = some (.int .i64 ((rd_T47 l0_0 x25_2).f1)) := (blk_cell BK315.out 1).trans rfl
                          have hcz56_2 : wc.cell? ⟨gb315, 2, none⟩ = some (.int .i64 ((rd_T47 l0_0 x25_2).f2)) := (blk_cell BK315.out 2).trans rfl
                          have hcz56_3 : wc.cell? ⟨gb315, 3, none⟩ = some (.int .i64 ((rd_T47 l0_0 x25_2).f3)) := (blk_cell BK315.out 3).trans rfl
                          have hfz56_0 := blk_frozen BK315.out 0
                          have hfz56_1 := blk_frozen BK315.out 1
                          have hfz56_2 := blk_frozen BK315.out 2
                          have hfz56_3 := blk_frozen BK315.out 3
                          go_wp2
                          repeat (go_quiet (fail); try go_wp2)
                          go_ret
                          exact ⟨by first | rfl | (simp [errW_none, errW_some] <;> rfl) | (simp [*, errW_none, errW_some] <;> rfl), by repeat (first | (with_reducible first | exact HB.out | apply below_alloc | apply pw_below_drewN | apply below_drew1 | refine below_set ?_ GE312.out | refine below_set ?_ GE315.out) | exact HB.out)⟩
                        · rw [if_neg c52] at H
                          have c52b0 : decide (58 ≤ ((rd_T47 l0_0 x25_2).f0)) = false := decide_eq_false c52
                          clear c52
                          by_cases c57 : ((rd_T47 l0_0 x25_2).f3) < 1
                          · rw [if_pos c57] at H
                            have c57b0 : decide (((rd_T47 l0_0 x25_2).f3) < 1) = true := decide_eq_true c57
                            clear c57
                            obtain rfl := Option.some.inj H
                            have hnb58 := NB312_315.out
                            have hnc58 := NB315_312.out
                            have hcz59_0 : wc.cell? ⟨gb312, 0, none⟩ = some (.slice (some ad314) l0_0.length c0_0) := (blk_cell BK312.out 0).trans rfl
                            have hfz59_0 := blk_frozen BK312.out 0
                            obtain ⟨Ao60, co60, eo60⟩ := Kd.R_slice HO_3.out
                            subst eo60
                            have hcz61_0 : wc.cell? ⟨gb315, 0, none⟩ = some (.int .u8 ((rd_T47 l0_0 x25_2).f0)) := (blk_cell BK315.out 0).trans rfl
                            have hcz61_1 : wc.cell? ⟨gb315, 1, none⟩ = some (.int .i64 ((rd_T47 l0_0 x25_2).f1)) := (blk_cell BK315.out 1).trans rfl
                            have hcz61_2 : wc.cell? ⟨gb315, 2, none⟩ = some (.int .i64 ((rd_T47 l0_0 x25_2).f2)) := (blk_cell BK315.out 2).trans rfl
                            have hcz61_3 : wc.cell? ⟨gb315, 3, none⟩ = some (.int .i64 ((rd_T47 l0_0 x25_2).f3)) := (blk_cell BK315.out 3).trans rfl
                            have hfz61_0 := blk_frozen BK315.out 0
                            have hfz61_1 := blk_frozen BK315.out 1
                            have hfz61_2 := blk_frozen BK315.out 2
                            have hfz61_3 := blk_frozen BK315.out 3
                            go_wp2
                            repeat (go_quiet (fail); try go_wp2)
                            go_ret
                            exact ⟨by first | rfl | (simp [errW_none, errW_some] <;> rfl) | (simp [*, errW_none, errW_some] <;> rfl), by repeat (first | (with_reducible first | exact HB.out | apply below_alloc | apply pw_below_drewN | apply below_drew1 | refine below_set ?_ GE312.out | refine below_set ?_ GE315.out) | exact HB.out)⟩
                          · rw [if_neg c57] at H
                            have c57b0 : decide (((rd_T47 l0_0 x25_2).f3) < 1) = false := decide_eq_false c57
                            clear c57
                            by_cases c62 : ((rd_T47 l0_0 x25_2).f3) > (wrap64 ((l0_0.length : Int) - x25_2))
                            · rw [if_pos c62] at H
                              have c62b0 : decide ((wrap64 ((l0_0.length : Int) - x25_2)) < ((rd_T47 l0_0 x25_2).f3)) = true := decide_eq_true c62
                              clear c62
                              obtain rfl := Option.some.inj H
                              have hnb63 := NB312_315.out
                              have hnc63 := NB315_312.out
                              have hcz64_0 : wc.cell? ⟨gb312, 0, none⟩ = some (.slice (some ad314) l0_0.length c0_0) := (blk_cell BK312.out 0).trans rfl
                              have hfz64_0 := blk_frozen BK312.out 0
                              obtain ⟨Ao65, co65, eo65⟩ := Kd.R_slice HO_3.out
                              subst eo65
                              have hcz66_0 : wc.cell? ⟨gb315, 0, none⟩ = some (.int .u8 ((rd_T47 l0_0 x25_2).f0)) := (blk_cell BK315.out 0).trans rfl
                              have hcz66_1 : wc.cell? ⟨gb315, 1, none⟩ = some (.int .i64 ((rd_T47 l0_0 x25_2).f1)) := (blk_cell BK315.out 1).trans rfl
                              have hcz66_2 : wc.cell? ⟨gb315, 2, none⟩ = some (.int .i64 ((rd_T47 l0_0 x25_2).f2)) := (blk_cell BK315.out 2).trans rfl
                              have hcz66_3 : wc.cell? ⟨gb315, 3, none⟩ = some (.int .i64 ((rd_T47 l0_0 x25_2).f3)) := (blk_cell BK315.out 3).trans rfl
                              have hfz66_0 := blk_frozen BK315.out 0
                              have hfz66_1 := blk_frozen BK315.out 1
                              have hfz66_2 := blk_frozen BK315.out 2
                              have hfz66_3 := blk_frozen BK315.out 3
                              go_wp2
                              repeat (go_quiet (fail); try go_wp2)
                              go_ret
                              exact ⟨by first | rfl | (simp [errW_none, errW_some] <;> rfl) | (simp [*, errW_none, errW_some] <;> rfl), by repeat (first | (with_reducible first | exact HB.out | apply below_alloc | apply pw_below_drewN | apply below_drew1 | refine below_set ?_ GE312.out | refine below_set ?_ GE315.out) | exact HB.out)⟩
                            · rw [if_neg c62] at H
                              have c62b0 : decide ((wrap64 ((l0_0.length : Int) - x25_2)) < ((rd_T47 l0_0 x25_2).f3)) = false := decide_eq_false c62
                              clear c62
                              by_cases c67 : x3_12.length < 17592186044416
                              · rw [if_pos c67] at H
                                have LMc67 := Aside0.mk c67
                                clear c67
                                obtain ⟨y324, hy324⟩ : ∃ y_ : List Int, y_ = (x3_12 ++ [wrap64 (x25_2 + ((rd_T47 l0_0 x25_2).f3))]) := ⟨_, rfl⟩
                                replace H : (tree_shaped.l0 kj12 y324 l0_0 (l0_0.length : Int) (wrap64 (x25_2 + 1)) l0_0) = some r := by first | (rw [hy324]; with_reducible exact H) | (have H2_ := (Option.bind_some _ _).symm.trans H; rw [hy324]; with_reducible exact H2_) | (have H2_ := (Option.bind_some _ _).symm.trans H; with_reducible exact H2_) | with_reducible exact H | (rw [hy324]; exact H) | exact H
                                have Ny324 := Aside0.mk hy324
                                clear hy324
                                have H' := Aside0.mk H
                                clear H
                                have hnb68 := NB312_315.out
                                have hnc68 := NB315_312.out
                                have hcz69_0 : wc.cell? ⟨gb312, 0, none⟩ = some (.slice (some ad314) l0_0.length c0_0) := (blk_cell BK312.out 0).trans rfl
                                have hfz69_0 := blk_frozen BK312.out 0
                                obtain ⟨Ao70, co70, eo70⟩ := Kd.R_slice HO_3.out
                                subst eo70
                                have hcz71_0 : wc.cell? ⟨gb315, 0, none⟩ = some (.int .u8 ((rd_T47 l0_0 x25_2).f0)) := (blk_cell BK315.out 0).trans rfl
                                have hcz71_1 : wc.cell? ⟨gb315, 1, none⟩ = some (.int .i64 ((rd_T47 l0_0 x25_2).f1)) := (blk_cell BK315.out 1).trans rfl
                                have hcz71_2 : wc.cell? ⟨gb315, 2, none⟩ = some (.int .i64 ((rd_T47 l0_0 x25_2).f2)) := (blk_cell BK315.out 2).trans rfl
                                have hcz71_3 : wc.cell? ⟨gb315, 3, none⟩ = some (.int .i64 ((rd_T47 l0_0 x25_2).f3)) := (blk_cell BK315.out 3).trans rfl
                                have hfz71_0 := blk_frozen BK315.out 0
                                have hfz71_1 := blk_frozen BK315.out 1
                                have hfz71_2 := blk_frozen BK315.out 2
                                have hfz71_3 := blk_frozen BK315.out 3
                                go_wp2_with (first | ((with_reducible refine gate_builtin (b := .append) (xs := #[.tmp 76, .tmp 81]) rfl ?_); (try (refine gate_guard (by rfl) ?_; dsimp only)); at_builtin; refine Kd.R_append (Kd.int .i64) (w0 := w) w.heap.size rfl (.tmp 76) (.tmp 81) 33 3 (.int .i64 0) 8 rfl Try.underlying33 info3 rfl (by decide) (by omega) (.slice Ao70 x3_12.length co70) x3_12 (wrap64 (x25_2 + ((rd_T47 l0_0 x25_2).f3))) [.int .i64 (wrap64 (x25_2 + ((rd_T47 l0_0 x25_2).f3)))] (fun _ => True) (fun _ => False) rfl rfl ?aP (fun _ hk => hk.elim) ?aF ?aO ?aB ?aS ?aL ?_; (case aP => exact rfl); (case aB => exact (by repeat (first | (with_reducible first | exact HB.out | apply below_alloc | apply pw_below_drewN | apply below_drew1 | refine below_set ?_ GE312.out | refine below_set ?_ GE315.out) | exact HB.out))); (case aF => exact (fun _ _ => trivial)); (case aO => exact (by (with_reducible repeat (first | apply Kd.R_alloc | apply Kd.R_drewN | apply Kd.R_drew)); exact HO_3.out)); (case aS => exact (below_size (by repeat (first | (with_reducible first | exact HB.out | apply below_alloc | apply pw_below_drewN | apply below_drew1 | refine below_set ?_ GE312.out | refine below_set ?_ GE315.out) | exact HB.out)))); (case aL => have := LMc67.out; omega); intro v325 w72 ho hb hg hat; rw [← Ny324.out] at ho; have n0_ := Aside0.mk (blk_grown (g := gb312) (o := .cells #[.slice (some ad314) l0_0.length c0_0] 25 (0, 0)) (by (with_reducible repeat (first | refine blk_drewN ?_ _ | refine blk_drew ?_ | refine blk_alloc ?_ _)); exact BK312.out) hg (Kd.R_ne HO_3.out BK312.out (by decide))); have n1_ := Aside0.mk (blk_grown (g := gb315) (o := .cells #[.int .u8 ((rd_T47 l0_0 x25_2).f0), .int .i64 ((rd_T47 l0_0 x25_2).f1), .int .i64 ((rd_T47 l0_0 x25_2).f2), .int .i64 ((rd_T47 l0_0 x25_2).f3)] 47 (0, 0)) (by (with_reducible repeat (first | refine blk_drewN ?_ _ | refine blk_drew ?_ | refine blk_alloc ?_ _)); exact BK315.out) hg (Kd.R_ne HO_3.out BK315.out (by decide))); have n2_ := Aside0.mk (hb); have n3_ := Aside0.mk (ho); clear BK312; clear BK315; clear HB; clear HO_3; have BK312 := n0_; have BK315 := n1_; have HB := n2_; have HO326 := n3_; clear n0_ n1_ n2_ n3_; clear ho hb hg hat))
                                repeat (go_quiet (first | ((with_reducible refine gate_builtin (b := .append) (xs := #[.tmp 76, .tmp 81]) rfl ?_); (try (refine gate_guard (by rfl) ?_; dsimp only)); at_builtin; refine Kd.R_append (Kd.int .i64) (w0 := w) w.heap.size rfl (.tmp 76) (.tmp 81) 33 3 (.int .i64 0) 8 rfl Try.underlying33 info3 rfl (by decide) (by omega) (.slice Ao70 x3_12.length co70) x3_12 (wrap64 (x25_2 + ((rd_T47 l0_0 x25_2).f3))) [.int .i64 (wrap64 (x25_2 + ((rd_T47 l0_0 x25_2).f3)))] (fun _ => True) (fun _ => False) rfl rfl ?aP (fun _ hk => hk.elim) ?aF ?aO ?aB ?aS ?aL ?_; (case aP => exact rfl); (case aB => exact (by repeat (first | (with_reducible first | exact HB.out | apply below_alloc | apply pw_below_drewN | apply below_drew1 | refine below_set ?_ GE312.out | refine below_set ?_ GE315.out) | exact HB.out))); (case aF => exact (fun _ _ => trivial)); (case aO => exact (by (with_reducible repeat (first | apply Kd.R_alloc | apply Kd.R_drewN | apply Kd.R_drew)); exact HO_3.out)); (case aS => exact (below_size (by repeat (first | (with_reducible first | exact HB.out | apply below_alloc | apply pw_below_drewN | apply below_drew1 | refine below_set ?_ GE312.out | refine below_set ?_ GE315.out) | exact HB.out)))); (case aL => have := LMc67.out; omega); intro v325 w72 ho hb hg hat; rw [← Ny324.out] at ho; have n0_ := Aside0.mk (blk_grown (g := gb312) (o := .cells #[.slice (some ad314) l0_0.length c0_0] 25 (0, 0)) (by (with_reducible repeat (first | refine blk_drewN ?_ _ | refine blk_drew ?_ | refine blk_alloc ?_ _)); exact BK312.out) hg (Kd.R_ne HO_3.out BK312.out (by decide))); have n1_ := Aside0.mk (blk_grown (g := gb315) (o := .cells #[.int .u8 ((rd_T47 l0_0 x25_2).f0), .int .i64 ((rd_T47 l0_0 x25_2).f1), .int .i64 ((rd_T47 l0_0 x25_2).f2), .int .i64 ((rd_T47 l0_0 x25_2).f3)] 47 (0, 0)) (by (with_reducible repeat (first | refine blk_drewN ?_ _ | refine blk_drew ?_ | refine blk_alloc ?_ _)); exact BK315.out) hg (Kd.R_ne HO_3.out BK315.out (by decide))); have n2_ := Aside0.mk (hb); have n3_ := Aside0.mk (ho); clear BK312; clear BK315; clear HB; clear HO_3; have BK312 := n0_; have BK315 := n1_; have HB := n2_; have HO326 := n3_; clear n0_ n1_ n2_ n3_; clear ho hb hg hat)); try go_wp2_with (first | ((with_reducible refine gate_builtin (b := .append) (xs := #[.tmp 76, .tmp 81]) rfl ?_); (try (refine gate_guard (by rfl) ?_; dsimp only)); at_builtin; refine Kd.R_append (Kd.int .i64) (w0 := w) w.heap.size rfl (.tmp 76) (.tmp 81) 33 3 (.int .i64 0) 8 rfl Try.underlying33 info3 rfl (by decide) (by omega) (.slice Ao70 x3_12.length co70) x3_12 (wrap64 (x25_2 + ((rd_T47 l0_0 x25_2).f3))) [.int .i64 (wrap64 (x25_2 + ((rd_T47 l0_0 x25_2).f3)))] (fun _ => True) (fun _ => False) rfl rfl ?aP (fun _ hk => hk.elim) ?aF ?aO ?aB ?aS ?aL ?_; (case aP => exact rfl); (case aB => exact (by repeat (first | (with_reducible first | exact HB.out | apply below_alloc | apply pw_below_drewN | apply below_drew1 | refine below_set ?_ GE312.out | refine below_set ?_ GE315.out) | exact HB.out))); (case aF => exact (fun _ _ => trivial)); (case aO => exact (by (with_reducible repeat (first | apply Kd.R_alloc | apply Kd.R_drewN | apply Kd.R_drew)); exact HO_3.out)); (case aS => exact (below_size (by repeat (first | (with_reducible first | exact HB.out | apply below_alloc | apply pw_below_drewN | apply below_drew1 | refine below_set ?_ GE312.out | refine below_set ?_ GE315.out) | exact HB.out)))); (case aL => have := LMc67.out; omega); intro v325 w72 ho hb hg hat; rw [← Ny324.out] at ho; have n0_ := Aside0.mk (blk_grown (g := gb312) (o := .cells #[.slice (some ad314) l0_0.length c0_0] 25 (0, 0)) (by (with_reducible repeat (first | refine blk_drewN ?_ _ | refine blk_drew ?_ | refine blk_alloc ?_ _)); exact BK312.out) hg (Kd.R_ne HO_3.out BK312.out (by decide))); have n1_ := Aside0.mk (blk_grown (g := gb315) (o := .cells #[.int .u8 ((rd_T47 l0_0 x25_2).f0), .int .i64 ((rd_T47 l0_0 x25_2).f1), .int .i64 ((rd_T47 l0_0 x25_2).f2), .int .i64 ((rd_T47 l0_0 x25_2).f3)] 47 (0, 0)) (by (with_reducible repeat (first | refine blk_drewN ?_ _ | refine blk_drew ?_ | refine blk_alloc ?_ _)); exact BK315.out) hg (Kd.R_ne HO_3.out BK315.out (by decide))); have n2_ := Aside0.mk (hb); have n3_ := Aside0.mk (ho); clear BK312; clear BK315; clear HB; clear HO_3; have BK312 := n0_; have BK315 := n1_; have HB := n2_; have HO326 := n3_; clear n0_ n1_ n2_ n3_; clear ho hb hg hat)))
                                go_roundg kj12
                                case measure => have := HJ1.out; have := HK2.out; have := HJ12.out; omega
                                case rel => exact ⟨(y324), (wrap64 (x25_2 + 1)), (by first | rfl | (simp; done) | (simp [*]; done)), H', ⟨by have := HJ1.out; have := HK2.out; have := HJ12.out; omega⟩, ⟨by (with_reducible repeat (first | apply Kd.R_alloc | apply Kd.R_drewN | apply Kd.R_drew)); exact HO326.out⟩, ⟨by (with_reducible repeat (first | refine blk_drewN ?_ _ | refine blk_drew ?_ | refine blk_alloc ?_ _)); exact BK312.out⟩, ⟨by repeat (first | (with_reducible first | exact HB.out | apply below_alloc | apply pw_below_drewN | apply below_drew1 | refine below_set ?_ GE312.out | refine below_set ?_ GE315.out) | exact HB.out)⟩⟩
                              · rw [if_neg c67] at H
                                exact absurd H (by simp)
                · rw [if_neg c12] at H
                  exact absurd H (by simp)
              · rw [if_neg c11] at H
                exact absurd H (by simp)
            · rw [if_neg c10] at H
              have c10b0 : decide (x25_2 < (l0_0.length : Int)) = false := decide_eq_false c10
              clear c10
              obtain rfl := Option.some.inj H
              go_wp2
              repeat (go_quiet (fail); try go_wp2)
              go_ret
              exact ⟨by first | rfl | (simp [errW_none, errW_some] <;> rfl) | (simp [*, errW_none, errW_some] <;> rfl), by repeat (first | (with_reducible first | exact HB.out | apply below_alloc | apply pw_below_drewN | apply below_drew1 | refine below_set ?_ GE312.out) | exact HB.out)⟩

end Go.Proofs.Ytodldpdnhcafpaa.F

namespace Go.Proofs.Ytodldpdnhcafpaa.Q
open Go.RowKit Go.Proofs.YtodldpdnhcafpaaW.PrintWords Go.Proofs.YtodldpdnhcafpaaW.PrintLast Go.Proofs.YtodldpdnhcafpaaW.PrintMore
open Go.Proofs.Ytodldpdnhcafpaa.F Go.Proofs.Ytodldpdnhcafpaa.K
set_option linter.unusedSimpArgs false
set_option linter.unusedVariables false

/-- Are the kids from x on in order up to en? -/
def ck (l : List S47) (en : Int) : Nat → Int → Bool
  | 0, _ => true
  | d + 1, x => if x < en then (if (rd_T47 l x).f3 < 1 then false else if (rd_T47 l x).f3 > en - x then false else ck l en d (x + (rd_T47 l x).f3)) else true
theorem kgo_ck (l : List S47) (en : Int) : ∀ (d : Nat) (pre : List Int) (x : Int), (kgo l en d pre x).2 = ck l en d x
  | 0, _, _ => rfl
  | d + 1, pre, x => by
    simp only [kgo, ck]
    split
    · split
      · rfl
      · split
        · rfl
        · exact kgo_ck l en d _ _
    · rfl
theorem ck_fuel (l : List S47) (en : Int) : ∀ (d d' : Nat) (x : Int), en - x ≤ d → en - x ≤ d' → ck l en d x = ck l en d' x
  | 0, 0, _, _, _ => rfl
  | 0, d' + 1, x, h, _ => by simp only [ck]; rw [if_neg (by omega)]
  | d + 1, 0, x, _, h => by simp only [ck]; rw [if_neg (by omega)]
  | d + 1, d' + 1, x, h, h' => by
    simp only [ck]
    split
    · split
      · rfl
      · split
        · rfl
        · exact ck_fuel l en d d' _ (by omega) (by omega)
    · rfl
def C (l : List S47) (x en : Int) : Bool := ck l en l.length x
theorem C_self (l : List S47) (x : Int) : C l x x = true := by
  unfold C
  cases l.length with
  | zero => rfl
  | succ d => simp only [ck]; rw [if_neg (by omega)]
theorem C_step (l : List S47) (x en : Int) (h0 : 0 ≤ x) (h : x < en) (he : en ≤ l.length) : C l x en = (decide (1 ≤ (rd_T47 l x).f3) && (decide ((rd_T47 l x).f3 ≤ en - x) && C l (x + (rd_T47 l x).f3) en)) := by
  unfold C
  rw [ck_fuel l en l.length (l.length + 1) x (by omega) (by omega)]
  simp only [ck]
  rw [if_pos h]
  by_cases c1 : (rd_T47 l x).f3 < 1
  · rw [if_pos c1, decide_eq_false (by omega)]; rfl
  · rw [if_neg c1, decide_eq_true (show 1 ≤ (rd_T47 l x).f3 by omega)]
    by_cases c2 : (rd_T47 l x).f3 > en - x
    · rw [if_pos c2, decide_eq_false (by omega)]; rfl
    · rw [if_neg c2, decide_eq_true (show (rd_T47 l x).f3 ≤ en - x by omega)]; rfl
theorem kspec_C (l : List S47) (n : Int) : (kspec l n).2 = (sizedB l n && C l (n + 1) (n + (rd_T47 l n).f3)) := by
  unfold kspec C
  split
  · rename_i h; rw [kgo_ck, h]; rfl
  · rename_i h; rw [show sizedB l n = false by simpa using h]; rfl
def good (l : List S47) (n : Int) : Bool := (kspec l n).2 && decide ((rd_T47 l n).f0 < 58)
def allG (l : List S47) : Nat → Int → Bool
  | 0, _ => true
  | f + 1, n => good l n && allG l f (n + 1)
def rem (l : List S47) : Int → List Int → Bool
  | _, [] => true
  | n, e :: s => C l n e && rem l e s
/-- The nodes from n on, the ends of those around from the innermost on. -/
def pops (n : Int) : List Int → List Int
  | [] => []
  | e :: s => if e = n then pops n s else e :: s
def endOf (l : List S47) : List Int → Int
  | [] => l.length
  | e :: _ => e
def run (l : List S47) : Nat → Int → List Int → Bool
  | 0, _, _ => true
  | f + 1, n, s => if (rd_T47 l n).f0 ≥ 58 then false else if (rd_T47 l n).f3 < 1 then false else if (rd_T47 l n).f3 > endOf l (pops n s) - n then false else run l f (n + 1) ((n + (rd_T47 l n).f3) :: pops n s)

/-- What the ends of the nodes around are like. -/
def Ends (l : List S47) (n : Int) (s : List Int) : Prop := ∀ e ∈ s, n ≤ e ∧ e ≤ (l.length : Int)
theorem pops_mem {n e : Int} : ∀ {s : List Int}, e ∈ pops n s → e ∈ s
  | [], h => by simp [pops] at h
  | a :: s, h => by
    simp only [pops] at h
    split at h
    · exact List.mem_cons_of_mem _ (pops_mem h)
    · exact h
theorem rem_pops (l : List S47) (n : Int) : ∀ s : List Int, rem l n s = rem l n (pops n s)
  | [] => rfl
  | e :: s => by
    simp only [pops]
    split
    · rename_i h
      subst h
      simp only [rem]
      rw [C_self, Bool.true_and]
      exact rem_pops l e s
    · rfl
theorem pops_head {n e : Int} {s t : List Int} (h : pops n s = e :: t) : e ≠ n := by
  induction s with
  | nil => simp [pops] at h
  | cons a s ih =>
    simp only [pops] at h
    split at h
    · exact ih h
    · rename_i hne
      obtain ⟨rfl, _⟩ := List.cons.inj h
      exact hne
theorem rem_full (l : List S47) : ∀ s : List Int, Ends l l.length s → rem l l.length s = true
  | [], _ => rfl
  | e :: s, h => by
    have h1 := h e List.mem_cons_self
    have : e = (l.length : Int) := by omega
    subst this
    simp only [rem]
    rw [C_self, Bool.true_and]
    exact rem_full l s (fun x hx => h x (List.mem_cons_of_mem _ hx))
theorem pops_last (n : Int) (z : Int) (hz : z ≠ n) : ∀ s : List Int, s.getLast? = some z → (pops n s).getLast? = some z
  | [], h => by simp at h
  | e :: s, h => by
    simp only [pops]
    split
    · rename_i he
      cases s with
      | nil => simp at h; omega
      | cons a s =>
        rw [List.getLast?_cons_cons] at h
        exact pops_last n z hz (a :: s) h
    · exact h
theorem pops_suffix (n : Int) : ∀ s : List Int, pops n s <:+ s
  | [] => List.suffix_refl _
  | e :: s => by
    simp only [pops]
    split
    · exact (pops_suffix n s).trans (List.suffix_cons _ _)
    · exact List.suffix_refl _
theorem run_rem (l : List S47) : ∀ (f : Nat) (n : Int) (s : List Int), (l.length : Int) - n = f → 0 ≤ n → Ends l n s → s.Pairwise (· ≤ ·) → s.getLast? = some (l.length : Int) → run l f n s = (rem l n s && allG l f n)
  | 0, n, s, hf, h0, hs, ho, hz => by
    have : n = (l.length : Int) := by omega
    subst this
    rw [rem_full l s hs]
    rfl
  | f + 1, n, s, hf, h0, hs, ho, hz => by
    have hlt : n < (l.length : Int) := by omega
    have hz2 := pops_last n (l.length : Int) (by omega) s hz
    rw [rem_pops]
    simp only [run, allG]
    cases hp : pops n s with
    | nil => rw [hp] at hz2; simp at hz2
    | cons e t =>
      have hne := pops_head hp
      have he : e ∈ s := pops_mem (by rw [hp]; exact List.mem_cons_self)
      have hes := hs e he
      have hen : n < e := by omega
      have hop : (e :: t).Pairwise (· ≤ ·) := by rw [← hp]; exact ho.sublist (pops_suffix n s).sublist
      have hE : endOf l (e :: t) = e := rfl
      simp only [rem]
      rw [hE, C_step l n e h0 hen hes.2]
      unfold good
      rw [kspec_C]
      unfold sizedB
      rw [decide_eq_true h0, decide_eq_true hlt]
      by_cases c0 : (rd_T47 l n).f0 ≥ 58
      · rw [if_pos c0, decide_eq_false (show ¬ (rd_T47 l n).f0 < 58 by omega)]; simp
      · rw [if_neg c0, decide_eq_true (show (rd_T47 l n).f0 < 58 by omega)]
        by_cases c1 : (rd_T47 l n).f3 < 1
        · rw [if_pos c1, decide_eq_false (show ¬ 1 ≤ (rd_T47 l n).f3 by omega)]; simp
        · rw [if_neg c1, decide_eq_true (show 1 ≤ (rd_T47 l n).f3 by omega)]
          by_cases c2 : (rd_T47 l n).f3 > e - n
          · rw [if_pos c2, decide_eq_false (show ¬ (rd_T47 l n).f3 ≤ e - n by omega)]; simp
          · rw [if_neg c2, decide_eq_true (show (rd_T47 l n).f3 ≤ e - n by omega), decide_eq_true (show (rd_T47 l n).f3 ≤ (l.length : Int) - n by omega)]
            rw [run_rem l f (n + 1) ((n + (rd_T47 l n).f3) :: e :: t) (by omega) (by omega) ?_ ?_ ?_]
            · simp only [rem, Bool.true_and, Bool.and_true]
              generalize C l (n + 1) (n + (rd_T47 l n).f3) = x1
              generalize C l (n + (rd_T47 l n).f3) e = x2
              generalize rem l e t = x3
              generalize allG l f (n + 1) = x4
              cases x1 <;> cases x2 <;> cases x3 <;> cases x4 <;> rfl
            · intro x hx
              rcases List.mem_cons.1 hx with rfl | hx
              · omega
              · have hx2 : x ∈ pops n s := by rw [hp]; exact hx
                have h3 := hs x (pops_mem hx2)
                rcases List.mem_cons.1 hx with rfl | hx
                · omega
                · have := (List.pairwise_cons.1 hop).1 x hx
                  omega
            · refine List.pairwise_cons.2 ⟨fun x hx => ?_, hop⟩
              rcases List.mem_cons.1 hx with rfl | hx
              · omega
              · have := (List.pairwise_cons.1 hop).1 x hx
                omega
            · rw [List.getLast?_cons_cons, ← hp]; exact hz2

def shapedB (l : List S47) : Bool := decide (0 < l.length) && (decide ((rd_T47 l 0).f3 = (l.length : Int)) && allG l l.length 0)
theorem run_all (l : List S47) (h : 0 < l.length) (hz : (rd_T47 l 0).f3 = (l.length : Int)) : run l l.length 0 [] = allG l l.length 0 := by
  obtain ⟨f, hf⟩ : ∃ f, l.length = f + 1 := ⟨l.length - 1, by omega⟩
  have h1 : run l f 1 [(l.length : Int)] = (rem l 1 [(l.length : Int)] && allG l f 1) := by
    refine run_rem l f 1 _ (by omega) (by omega) ?_ (by simp) (by simp)
    intro e he
    simp at he
    omega
  rw [hf]
  simp only [run, allG]
  have hP : pops 0 [] = [] := rfl
  have hE : endOf l [] = (l.length : Int) := rfl
  rw [hP, hE, hz, Int.zero_add, Int.zero_add, h1]
  unfold good
  rw [kspec_C]
  unfold sizedB
  rw [hz, Int.zero_add, Int.zero_add, decide_eq_true (show (0 : Int) ≤ 0 by omega), decide_eq_true (show (0 : Int) < (l.length : Int) by omega), decide_eq_true (show (1 : Int) ≤ (l.length : Int) by omega), decide_eq_true (show (l.length : Int) ≤ (l.length : Int) - 0 by omega)]
  rw [if_neg (show ¬ (l.length : Int) < 1 by omega), if_neg (show ¬ (l.length : Int) > (l.length : Int) - 0 by omega)]
  simp only [rem]
  by_cases c : (rd_T47 l 0).f0 ≥ 58
  · rw [if_pos c, decide_eq_false (show ¬ (rd_T47 l 0).f0 < 58 by omega)]; simp
  · rw [if_neg c, decide_eq_true (show (rd_T47 l 0).f0 < 58 by omega)]; simp

theorem last_rev (e : Int) (s : List Int) : rd ((e :: s).reverse) (wrap64 (((e :: s).reverse.length : Int) - 1)) = e ∨ ¬ (e :: s).length ≤ 9223372036854775807 := by
  by_cases h : (e :: s).length ≤ 9223372036854775807
  · left
    rw [List.length_reverse, kw64 (by omega) (by simp only [List.length_cons] at h ⊢; omega)]
    unfold rd
    rw [show (((e :: s).length : Int) - 1).toNat = s.length by simp only [List.length_cons]; omega, List.reverse_cons]
    simp [List.getD_eq_getElem?_getD]
  · exact .inr h
/-- tree.shaped's two inner parts. -/
theorem shaped_loop (l : List S47) (hl : l.length ≤ 4398046511104) : ∀ (f : Nat) (n : Int) (s : List Int), (l.length : Int) - n = f → 0 ≤ n → (∀ e ∈ s, 0 ≤ e ∧ e ≤ (l.length : Int)) → (s.length : Int) ≤ n →
    Ev (fun k => tree_shaped.l0 k s.reverse l (l.length : Int) n l) (run l f n s)
  | 0, n, s, hf, h0, hs, hb => by
    refine ⟨1, fun m hm => ?_⟩
    obtain ⟨k, rfl⟩ : ∃ j, m = j + 1 := ⟨m - 1, by omega⟩
    simp only [tree_shaped.l0, run]
    rw [if_neg (by omega)]
  | f + 1, n, s, hf, h0, hs, hb => by
    have hlt : n < (l.length : Int) := by omega
    have hw1 : wrap64 (n + 1) = n + 1 := kw64 (by omega) (by omega)
    refine Ev.step (f := fun k => tree_shaped.l1 k s.reverse n l (l.length : Int) n l (rd_T47 l n).f0 (rd_T47 l n).f1 (rd_T47 l n).f2 (rd_T47 l n).f3) (fun k => by
      simp only [tree_shaped.l0]
      rw [if_pos hlt, if_pos h0, if_pos hlt]) ?_
    have tail : ∀ s : List Int, (∀ e ∈ s, 0 ≤ e ∧ e ≤ (l.length : Int)) → (s.length : Int) ≤ n →
        Ev (fun k => tree_shaped.j3 k s.reverse n l (l.length : Int) n l (rd_T47 l n).f0 (rd_T47 l n).f1 (rd_T47 l n).f2 (rd_T47 l n).f3)
          (if (rd_T47 l n).f0 ≥ 58 then false else if (rd_T47 l n).f3 < 1 then false else if (rd_T47 l n).f3 > endOf l s - n then false else run l f (n + 1) ((n + (rd_T47 l n).f3) :: s)) := by
      intro s hs hb
      have hend : 0 ≤ endOf l s ∧ endOf l s ≤ (l.length : Int) := by
        cases s with
        | nil => simp only [endOf]; omega
        | cons e s => exact hs e List.mem_cons_self
      have hwe : wrap64 (endOf l s - n) = endOf l s - n := kw64 (by omega) (by omega)
      have hlim : s.reverse.length < 17592186044416 := by rw [List.length_reverse]; omega
      have key : ∀ k, tree_shaped.j3 (k + 1) s.reverse n l (l.length : Int) n l (rd_T47 l n).f0 (rd_T47 l n).f1 (rd_T47 l n).f2 (rd_T47 l n).f3 =
          if (rd_T47 l n).f0 ≥ 58 then some false else if (rd_T47 l n).f3 < 1 then some false else if (rd_T47 l n).f3 > endOf l s - n then some false else tree_shaped.l0 k (s.reverse ++ [wrap64 (n + (rd_T47 l n).f3)]) l (l.length : Int) (n + 1) l := by
        intro k
        simp only [tree_shaped.j3, hw1]
        cases s with
        | nil =>
          have hE : endOf l [] = (l.length : Int) := rfl
          rw [hE] at hwe ⊢
          rw [if_neg (by simp), hwe, if_pos hlim]
        | cons e s =>
          have hE : endOf l (e :: s) = e := rfl
          rw [hE] at hwe ⊢
          have hr := (last_rev e s).resolve_right (fun h => h (by omega))
          have hlen : ((e :: s).reverse.length : Int) = (s.length : Int) + 1 := by rw [List.length_reverse, List.length_cons]; omega
          simp only [List.length_cons] at hb
          rw [hr, hwe, if_pos hlim, hlen, kw64 (by omega) (by omega), if_pos (by omega), if_pos (by omega), if_pos (by omega)]
      by_cases c0 : (rd_T47 l n).f0 ≥ 58
      · rw [if_pos c0]; exact ⟨1, fun m hm => by obtain ⟨k, rfl⟩ : ∃ j, m = j + 1 := ⟨m - 1, by omega⟩; simp only; rw [key, if_pos c0]⟩
      · rw [if_neg c0]
        by_cases c1 : (rd_T47 l n).f3 < 1
        · rw [if_pos c1]; exact ⟨1, fun m hm => by obtain ⟨k, rfl⟩ : ∃ j, m = j + 1 := ⟨m - 1, by omega⟩; simp only; rw [key, if_neg c0, if_pos c1]⟩
        · rw [if_neg c1]
          by_cases c2 : (rd_T47 l n).f3 > endOf l s - n
          · rw [if_pos c2]; exact ⟨1, fun m hm => by obtain ⟨k, rfl⟩ : ∃ j, m = j + 1 := ⟨m - 1, by omega⟩; simp only; rw [key, if_neg c0, if_neg c1, if_pos c2]⟩
          · rw [if_neg c2]
            have ih := shaped_loop l hl f (n + 1) ((n + (rd_T47 l n).f3) :: s) (by omega) (by omega) (fun e he => by
              rcases List.mem_cons.1 he with rfl | he
              · omega
              · exact hs e he) (by rw [List.length_cons]; omega)
            refine Ev.step (fun k => ?_) ih
            rw [key, if_neg c0, if_neg c1, if_neg c2, List.reverse_cons, kw64 (by omega) (by omega)]
    have pop : ∀ s : List Int, (∀ e ∈ s, 0 ≤ e ∧ e ≤ (l.length : Int)) → (s.length : Int) ≤ n →
        Ev (fun k => tree_shaped.l1 k s.reverse n l (l.length : Int) n l (rd_T47 l n).f0 (rd_T47 l n).f1 (rd_T47 l n).f2 (rd_T47 l n).f3)
          (if (rd_T47 l n).f0 ≥ 58 then false else if (rd_T47 l n).f3 < 1 then false else if (rd_T47 l n).f3 > endOf l (pops n s) - n then false else run l f (n + 1) ((n + (rd_T47 l n).f3) :: pops n s)) := by
      intro s
      induction s with
      | nil =>
        intro hs hb
        have := tail [] hs hb
        have hP : pops n [] = [] := rfl
        rw [hP]
        refine Ev.step (fun k => ?_) this
        simp only [tree_shaped.l1]
        rw [if_neg (by simp)]
      | cons e s ih =>
        intro hs hb
        have hr := (last_rev e s).resolve_right (fun h => h (by omega))
        have hlen : ((e :: s).reverse.length : Int) = (s.length : Int) + 1 := by rw [List.length_reverse, List.length_cons]; omega
        simp only [List.length_cons] at hb
        have hw : wrap64 ((s.length : Int) + 1 - 1) = (s.length : Int) := by rw [kw64] <;> omega
        by_cases c : e = n
        · have hP : pops n (e :: s) = pops n s := by simp only [pops]; rw [if_pos c]
          rw [hP]
          have i1 := ih (fun x hx => hs x (List.mem_cons_of_mem _ hx)) (by omega)
          refine Ev.step (fun k => ?_) i1
          simp only [tree_shaped.l1]
          rw [hr, if_pos (by omega), hlen, hw, if_pos (by omega), if_pos (by omega), if_pos c, if_pos (by omega), Int.toNat_natCast, List.reverse_cons, List.take_append_of_le_length (by simp), List.take_of_length_le (by simp)]
        · have hP : pops n (e :: s) = e :: s := by simp only [pops]; rw [if_neg c]
          rw [hP]
          have := tail (e :: s) hs (by rw [List.length_cons]; omega)
          refine Ev.step (fun k => ?_) this
          simp only [tree_shaped.l1]
          rw [hr, if_pos (by omega), hlen, hw, if_pos (by omega), if_pos (by omega), if_neg c]
    simp only [run]
    exact pop s hs hb
theorem shaped_is (l : List S47) (hl : l.length ≤ 4398046511104) : Ev (fun k => tree_shaped.f k l) (shapedB l) := by
  unfold tree_shaped.f shapedB
  have hbad : Ev (fun k => tree_shaped.j0 k true l) false := ⟨1, fun m hm => by
    obtain ⟨k, rfl⟩ : ∃ j, m = j + 1 := ⟨m - 1, by omega⟩
    simp only [tree_shaped.j0]; rfl⟩
  by_cases h : (l.length : Int) = 0
  · simp only [if_pos h, decide_eq_false (show ¬ 0 < l.length by omega), Bool.false_and]; exact hbad
  · simp only [if_neg h, if_pos (show 0 < (l.length : Int) by omega), decide_eq_true (show 0 < l.length by omega), Bool.true_and]
    by_cases hz : (rd_T47 l 0).f3 = (l.length : Int)
    · rw [decide_eq_true hz, Bool.true_and, ← run_all l (by omega) hz]
      have hne : ((rd_T47 l 0).f3 != (l.length : Int)) = false := bne_eq_false_iff_eq.mpr hz
      simp only [hne]
      have := shaped_loop l hl l.length 0 [] (by omega) (by omega) (by simp) (by simp)
      refine Ev.step (fun k => ?_) this
      simp only [tree_shaped.j0]
      rw [if_neg (by simp)]
      rfl
    · rw [decide_eq_false hz, Bool.false_and]
      have hne : ((rd_T47 l 0).f3 != (l.length : Int)) = true := bne_iff_ne.mpr hz
      simp only [hne]
      exact hbad
theorem rshaped_loop (l : List S47) (hl : l.length ≤ 4398046511104) (hk : ∀ x ∈ l, 0 ≤ x.f0 ∧ x.f0 ≤ 255) : ∀ (f : Nat) (n : Int), (l.length : Int) - n = f → 0 ≤ n → Ev (fun k => monikerref4_Shaped.l0 k n l) (allG l f n)
  | 0, n, hf, h0 => by
    refine ⟨1, fun m hm => ?_⟩
    obtain ⟨k, rfl⟩ : ∃ j, m = j + 1 := ⟨m - 1, by omega⟩
    simp only [monikerref4_Shaped.l0, allG]
    rw [if_neg (by omega)]
  | f + 1, n, hf, h0 => by
    have hlt : n < (l.length : Int) := by omega
    have ih := rshaped_loop l hl hk f (n + 1) (by omega) (by omega)
    have hw1 : wrap64 (n + 1) = n + 1 := kw64 (by omega) (by omega)
    obtain ⟨_, _, k3⟩ := Kids_all l hl n
    have hkn : 0 ≤ (rd_T47 l n).f0 ∧ (rd_T47 l n).f0 ≤ 255 := by
      have : rd_T47 l n = l[n.toNat]'(by omega) := by simp [rd_T47, List.getD_eq_getElem?_getD, show n.toNat < l.length by omega]
      rw [this]
      exact hk _ (List.getElem_mem _)
    have hw0 : wrap64 (rd_T47 l n).f0 = (rd_T47 l n).f0 := kw64 (by omega) (by omega)
    simp only [allG]
    unfold good
    refine Ev.step (f := fun k => (monikerref4_Kids.f k l n).bind fun bt292 => (if bt292.2 = true then (if 0 ≤ n then (if (rd_T47 l n).f0 ≥ 58 then (some false) else (monikerref4_Shaped.l0 k (n + 1) l)) else (none)) else (some false))) (fun k => by
      simp only [monikerref4_Shaped.l0, hw0, hw1]
      rw [if_pos hlt]) ?_
    refine k3.bind ?_
    by_cases c : (kspec l n).2 = true
    · simp only [if_pos c, if_pos h0]
      rw [c, Bool.true_and]
      by_cases c0 : (rd_T47 l n).f0 ≥ 58
      · simp only [if_pos c0]
        rw [decide_eq_false (show ¬ (rd_T47 l n).f0 < 58 by omega), Bool.false_and]
        exact Ev.now _
      · simp only [if_neg c0]
        rw [decide_eq_true (show (rd_T47 l n).f0 < 58 by omega), Bool.true_and]
        exact ih
    · simp only [if_neg c]
      rw [show (kspec l n).2 = false by simpa using c, Bool.false_and, Bool.false_and]
      exact Ev.now _
theorem RShaped_is (l : List S47) (hl : l.length ≤ 4398046511104) (hk : ∀ x ∈ l, 0 ≤ x.f0 ∧ x.f0 ≤ 255) : Ev (fun k => monikerref4_Shaped.f k l) (shapedB l) := by
  unfold monikerref4_Shaped.f shapedB
  have hbad : Ev (fun k => monikerref4_Shaped.j0 k true l) false := ⟨1, fun m hm => by
    obtain ⟨k, rfl⟩ : ∃ j, m = j + 1 := ⟨m - 1, by omega⟩
    simp only [monikerref4_Shaped.j0]; rfl⟩
  by_cases h : (l.length : Int) = 0
  · simp only [if_pos h, decide_eq_false (show ¬ 0 < l.length by omega), Bool.false_and]; exact hbad
  · simp only [if_neg h, if_pos (show 0 < (l.length : Int) by omega), decide_eq_true (show 0 < l.length by omega), Bool.true_and]
    by_cases hz : (rd_T47 l 0).f3 = (l.length : Int)
    · rw [decide_eq_true hz, Bool.true_and]
      have hne : ((rd_T47 l 0).f3 != (l.length : Int)) = false := bne_eq_false_iff_eq.mpr hz
      simp only [hne]
      refine Ev.step (fun k => ?_) (rshaped_loop l hl hk l.length 0 (by omega) (by omega))
      simp only [monikerref4_Shaped.j0]
      rw [if_neg (by simp)]
    · rw [decide_eq_false hz, Bool.false_and]
      have hne : ((rd_T47 l 0).f3 != (l.length : Int)) = true := bne_iff_ne.mpr hz
      simp only [hne]
      exact hbad
end Go.Proofs.Ytodldpdnhcafpaa.Q

namespace Go.Proofs.Ytodldpdnhcafpaa.F
open Go.RowKit Go.Proofs.YtodldpdnhcafpaaW.PrintWords Go.Proofs.YtodldpdnhcafpaaW.PrintLast Go.Proofs.YtodldpdnhcafpaaW.PrintMore
open Go.Proofs.Ytodldpdnhcafpaa.K
set_option linter.unusedVariables false
set_option linter.unusedSimpArgs false

def vfold (l : List S47) (nd : S47) (ks : List Int) : Bool × Int := ks.foldl (fun s x => vstep nd (rd_T47 l x) s.1 s.2) (true, nd.f1)
theorem vfold_snoc (l : List S47) (nd : S47) (ks : List Int) (x : Int) : vfold l nd (ks ++ [x]) = vstep nd (rd_T47 l x) (vfold l nd ks).1 (vfold l nd ks).2 := by simp [vfold]
def tree_Valid.l0 : Nat → List S47 → Int → Int → Option Bool
  | 0, _, _, _ => none
  | k + 1, l, q, i => if i < (l.length : Int) then (if 0 ≤ i then (if (rd_T47 l i).f1 < 0 then some false else if (rd_T47 l i).f2 < (rd_T47 l i).f1 then some false else if (rd_T47 l i).f2 > q then some false else (kids.f k l i).bind fun r => (if (vfold l (rd_T47 l i) r.1).1 = true then tree_Valid.l0 k l q (wrap64 (i + 1)) else some false)) else none) else some true
def tree_Valid.f (k : Nat) (l : List S47) (q : Int) : Option Bool := (tree_shaped.f k l).bind fun s => if s = true then tree_Valid.l0 k l q 0 else some false
def ValJ (l : List S47) (nd : S47) (gg ga gt gx : Nat) (vt : Value) (gb : Nat) (pre : List Int) (W : World) : Prop :=
  gb ≠ gg ∧ gb ≠ ga ∧ gt ≠ gg ∧ gt ≠ ga ∧ gx ≠ gg ∧ gx ≠ ga ∧ W.heap[gt]? = some (.cells #[vt] 25 (0, 0)) ∧ W.heap[gx]? = some (.cells #[.int .u8 nd.f0, .int .i64 nd.f1, .int .i64 nd.f2, .int .i64 nd.f3] 47 (0, 0)) ∧
    W.heap[gg]? = some (.cells #[.bool (vfold l nd pre).1] 4 (0, 0)) ∧ W.heap[ga]? = some (.cells #[.int .i64 (vfold l nd pre).2] 3 (0, 0))
set_option maxHeartbeats 8000000 in
set_option maxRecDepth 100000 in
theorem tree_Valid.calls (k : Nat) (A : Option Addr) (c : Nat) (l : List S47) (q : Int) (r : Bool) (w : World) (hr : Kd.C k47 w A l.length l) (hc : l.length ≤ c) (h : tree_Valid.f k l q = some r) :
    Calls Try.prog 44 #[.agg #[.slice A l.length c], .int .i64 q] w fun e w' => e = .returned (.bool r) ∧ Below w.heap.size w w' := by
  have hu25 := Try.underlying25
  have HR := Aside0.mk hr
  have HC := Aside0.mk hc
  obtain ⟨s, hs, h⟩ := Option.bind_eq_some_iff.1 h
  have HS := Aside0.mk hs
  have HF := Aside0.mk h
  clear h hr hc hs
  have HB := Aside0.mk (Below.refl w.heap.size w)
  have EG : ∀ args W, (callFunc 61 args).run Try.prog W = .ok (.enter 61 args) W := fun args W => enters_ Try.func61 (by kernel_rfl) rfl args W
  have EG' := Aside0.mk EG
  clear EG
  go_enter Try.func44, Try.ntmps44
  go_wp2_with (first
    | ((with_reducible refine gate_dst (N := 2) rfl ?_); refine box_event ?hg2 (N := 2) ?hd2 (cs := #[.slice A l.length c]) (t := 25) ?hr2 ?_; (case hd2 => rfl); (case hg2 => rfl); (case hr2 => first | (go_simp; done) | (go_simp; rfl)); intro g2 hg w1 hbox hb; have n0_ := Aside0.mk (below_step HB.out hb); have n1_ := Aside0.mk hbox; clear HB; have HB := n0_; have BK2 := n1_; clear n0_ n1_ hb hbox hg; have hcz2 : w1.cell? ⟨g2, 0, none⟩ = some (.slice A l.length c) := (blk_cell BK2.out 0).trans rfl))
  refine (tree_shaped.calls k A c l s _ (Kd.C_below HR.out HB.out) HC.out HS.out).mono ?_
  rintro e w2 ⟨rfl, hb⟩
  have n0_ := Aside0.mk (below_step HB.out hb)
  have n1_ := Aside0.mk (blk_below BK2.out hb)
  clear HB BK2 hcz2 hb
  have HB := n0_
  have BK2 := n1_
  clear n0_ n1_
  have hcz2 : w2.cell? ⟨g2, 0, none⟩ = some (.slice A l.length c) := (blk_cell BK2.out 0).trans rfl
  cases s with
  | false =>
    have he := HF.out
    simp only [Bool.false_eq_true, if_false] at he
    obtain rfl := Option.some.inj he
    go_wp2
    go_ret
    exact ⟨rfl, HB.out⟩
  | true =>
    have H' := Aside0.mk (show tree_Valid.l0 k l q 0 = some r by simpa using HF.out)
    clear HF
    go_wp2
    go_loopg [15] k (fun kq v15 w' => ∃ (i : Int), v15 = .int .i64 i ∧ Aside0 (tree_Valid.l0 kq l q i = some r) ∧ Aside0 (kq ≤ k) ∧ Aside0 (w'.heap[g2]? = some (.cells #[.slice A l.length c] 25 (0, 0))) ∧ Aside0 (Below w.heap.size w w'))
    case atStart => exact ⟨0, by first | rfl | simp, H', ⟨Nat.le_refl _⟩, BK2, HB⟩
    case round =>
      clear hcz2 BK2 HB H'
      obtain ⟨i, rfl, HA, HK, BK2, HB⟩ := hrel
      cases gk with
      | zero => exact absurd HA.out (by simp [tree_Valid.l0])
      | succ k3 =>
        have H := HA.out
        clear HA
        simp only [tree_Valid.l0] at H
        by_cases c1 : i < (l.length : Int)
        · rw [if_pos c1] at H
          by_cases c2 : 0 ≤ i
          · rw [if_pos c2] at H
            have c1b : decide (i < (l.length : Int)) = true := decide_eq_true c1
            have c2b : decide (0 ≤ i) = true := decide_eq_true c2
            obtain ⟨ad, e2, hx0, hx1, hx2, hx3⟩ := at_T47 (Kd.C_below HR.out HB.out) i c2 c1
            subst e2
            replace c1 := eq_true c1
            replace c2 := eq_true c2
            obtain ⟨y, hy⟩ : ∃ y, rd_T47 l i = y := ⟨_, rfl⟩
            rw [hy] at hx0 hx1 hx2 hx3 H
            clear hy
            have hcz2 : wr.cell? ⟨g2, 0, none⟩ = some (.slice (some ad) l.length c) := (blk_cell BK2.out 0).trans rfl
            by_cases c3 : y.f1 < 0
            · rw [if_pos c3] at H
              have c3b : decide (y.f1 < 0) = true := decide_eq_true c3
              clear c3
              obtain rfl := Option.some.inj H
              go_wp2
              go_ret
              exact ⟨rfl, by repeat (first | exact HB.out | apply below_drew1 | apply pw_below_drewN | apply below_alloc)⟩
            · rw [if_neg c3] at H
              have c3b : decide (y.f1 < 0) = false := decide_eq_false c3
              clear c3
              by_cases c4 : y.f2 < y.f1
              · rw [if_pos c4] at H
                have c4b : decide (y.f2 < y.f1) = true := decide_eq_true c4
                clear c4
                obtain rfl := Option.some.inj H
                go_wp2
                go_ret
                exact ⟨rfl, by repeat (first | exact HB.out | apply below_drew1 | apply pw_below_drewN | apply below_alloc)⟩
              · rw [if_neg c4] at H
                have c4b : decide (y.f2 < y.f1) = false := decide_eq_false c4
                clear c4
                by_cases c5 : y.f2 > q
                · rw [if_pos c5] at H
                  have c5b : decide (q < y.f2) = true := decide_eq_true c5
                  clear c5
                  obtain rfl := Option.some.inj H
                  go_wp2
                  go_ret
                  exact ⟨rfl, by repeat (first | exact HB.out | apply below_drew1 | apply pw_below_drewN | apply below_alloc)⟩
                · rw [if_neg c5] at H
                  have c5b : decide (q < y.f2) = false := decide_eq_false c5
                  clear c5
                  have B3 : Below wr.heap.size wr (((wr.alloc (.cells #[.int .u8 y.f0, .int .i64 y.f1, .int .i64 y.f2, .int .i64 y.f3] 47)).alloc (.cells #[.int .i64 y.f1] 3)).alloc (.cells #[.bool true] 4)) := below_alloc (below_alloc (below_alloc (Below.refl _ _) _) _) _
                  have L2 := Aside0.mk (blk_below BK2.out B3)
                  have lx0 := heap_alloc_new wr (.cells #[.int .u8 y.f0, .int .i64 y.f1, .int .i64 y.f2, .int .i64 y.f3] 47)
                  have LX := Aside0.mk (blk_below (blk_below lx0 (below_alloc (Below.refl _ _) (.cells #[.int .i64 y.f1] 3))) (below_alloc (Below.refl _ _) (.cells #[.bool true] 4)))
                  have la0 := heap_alloc_new (wr.alloc (.cells #[.int .u8 y.f0, .int .i64 y.f1, .int .i64 y.f2, .int .i64 y.f3] 47)) (.cells #[.int .i64 y.f1] 3)
                  rw [World.size_alloc] at la0
                  have LA := Aside0.mk (blk_below la0 (below_alloc (Below.refl _ _) (.cells #[.bool true] 4)))
                  have lg0 := heap_alloc_new ((wr.alloc (.cells #[.int .u8 y.f0, .int .i64 y.f1, .int .i64 y.f2, .int .i64 y.f3] 47)).alloc (.cells #[.int .i64 y.f1] 3)) (.cells #[.bool true] 4)
                  rw [World.size_alloc, World.size_alloc] at lg0
                  have LG := Aside0.mk lg0
                  have GLT := Aside0.mk (blk_lt BK2.out)
                  have LB := Aside0.mk (show Below w.heap.size w (((wr.alloc (.cells #[.int .u8 y.f0, .int .i64 y.f1, .int .i64 y.f2, .int .i64 y.f3] 47)).alloc (.cells #[.int .i64 y.f1] 3)).alloc (.cells #[.bool true] 4)) from below_step HB.out B3)
                  have HSZ := Aside0.mk HB.out.size
                  have hczg2 : (((wr.alloc (.cells #[.int .u8 y.f0, .int .i64 y.f1, .int .i64 y.f2, .int .i64 y.f3] 47)).alloc (.cells #[.int .i64 y.f1] 3)).alloc (.cells #[.bool true] 4)).cell? ⟨g2, 0, none⟩ = some (.slice (some ad) l.length c) := (blk_cell L2.out 0).trans rfl
                  clear B3 lx0 la0 lg0
                  go_wp2_with fail
                  obtain ⟨⟨ks, ok⟩, hk, H⟩ := Option.bind_eq_some_iff.1 H
                  refine (kids.calls 61 #[.pointer (some ⟨g2, 0, none⟩), .pointer (some ⟨(wr.heap.size + 1 + 1), 0, none⟩), .pointer (some ⟨wr.heap.size, 0, none⟩), .pointer (some ⟨(wr.heap.size + 1), 0, none⟩)] EG'.out (ValJ l y (wr.heap.size + 1 + 1) (wr.heap.size + 1) g2 wr.heap.size (.slice (some ad) l.length c)) k3 (some ad) c l i ks ok w _ HR.out HC.out LB.out hk ?h0 ?hal ?hY).mono ?_
                  case h0 =>
                    intro gb hgb
                    have e1 := blk_lt LG.out
                    have e2 := GLT.out
                    exact ⟨by omega, by omega, by omega, by omega, by omega, by omega, L2.out, LX.out, LG.out, LA.out⟩
                  case hal =>
                    rintro gb pre W W' ⟨h1, h2, h3, h4, h5, h6, h7, h8, h9, h10⟩ hb
                    exact ⟨h1, h2, h3, h4, h5, h6, blk_below h7 hb, blk_below h8 hb, blk_below h9 hb, blk_below h10 hb⟩
                  case hY =>
                    rintro gb pre x W hp h0 h1 ⟨j1, j2, j3, j4, j5, j6, j7, j8, j9, j10⟩ hge hlt hbW
                    refine (valid1.calls x l (some ad) c y (vfold l y pre).1 (vfold l y pre).2 g2 (wr.heap.size + 1 + 1) wr.heap.size (wr.heap.size + 1) w W j7 j9 j8 j10 (Kd.C_below HR.out hbW) h0 h1 hbW (by have := HSZ.out; omega) (by have := HSZ.out; omega)).mono ?_
                    rintro e w' ⟨hv, b1, b2, b3, b4⟩
                    rw [← vfold_snoc] at b1 b2
                    exact ⟨hv, ⟨j1, j2, j3, j4, j5, j6, (b3 _ (blk_lt j7) j3 j4).trans j7, (b3 _ (blk_lt j8) j5 j6).trans j8, b1, b2⟩, b3 gb hlt j1 j2, b4⟩
                  rintro e w7 ⟨rfl, ⟨gb, hj⟩, hb3⟩
                  obtain ⟨j1, j2, j3, j4, j5, j6, j7, j8, j9, j10⟩ := hj
                  have M2 := Aside0.mk j7
                  have MG := Aside0.mk j9
                  have MB := Aside0.mk hb3
                  have HE := Aside0.mk H
                  clear j1 j2 j3 j4 j5 j6 j7 j8 j9 j10 hb3 hczg2 hcz2 hx0 hx1 hx2 hx3 L2 LX LA LG LB BK2 HB hk H
                  have hcz2 : w7.cell? ⟨g2, 0, none⟩ = some (.slice (some ad) l.length c) := (blk_cell M2.out 0).trans rfl
                  by_cases c6 : (vfold l y ks).1 = true
                  · have H' := Aside0.mk (show tree_Valid.l0 k3 l q (wrap64 (i + 1)) = some r by simpa [c6] using HE.out)
                    have hczg : w7.cell? ⟨(wr.heap.size + 1 + 1), 0, none⟩ = some (.bool true) := by rw [← c6]; exact (blk_cell MG.out 0).trans rfl
                    clear c6
                    go_wp2
                    go_roundg k3
                    case measure => have := HK.out; omega
                    case rel => exact ⟨wrap64 (i + 1), by first | rfl | simp, H', ⟨by have := HK.out; omega⟩, M2, MB⟩
                  · have he : some false = some r := by simpa [c6] using HE.out
                    obtain rfl := Option.some.inj he
                    have c7 : (vfold l y ks).1 = false := by simpa using c6
                    have hczg : w7.cell? ⟨(wr.heap.size + 1 + 1), 0, none⟩ = some (.bool false) := by rw [← c7]; exact (blk_cell MG.out 0).trans rfl
                    clear c6 c7 he
                    go_wp2
                    go_ret
                    exact ⟨rfl, MB.out⟩
          · rw [if_neg c2] at H
            exact absurd H (by simp)
        · rw [if_neg c1] at H
          have c1b : decide (i < (l.length : Int)) = false := decide_eq_false c1
          clear c1
          obtain rfl := Option.some.inj H
          go_wp2
          go_ret
          exact ⟨rfl, by repeat (first | exact HB.out | apply below_drew1 | apply pw_below_drewN | apply below_alloc)⟩
end Go.Proofs.Ytodldpdnhcafpaa.F

namespace Go.Proofs.Ytodldpdnhcafpaa.Q
open Go.RowKit Go.Proofs.YtodldpdnhcafpaaW.PrintWords Go.Proofs.YtodldpdnhcafpaaW.PrintLast Go.Proofs.YtodldpdnhcafpaaW.PrintMore
open Go.Proofs.Ytodldpdnhcafpaa.F Go.Proofs.Ytodldpdnhcafpaa.K
set_option linter.unusedSimpArgs false
set_option linter.unusedVariables false

def okS (l : List S47) (q n : Int) : Bool := decide (0 ≤ (rd_T47 l n).f1) && (decide ((rd_T47 l n).f1 ≤ (rd_T47 l n).f2) && decide ((rd_T47 l n).f2 ≤ q))
def rf (l : List S47) (nd : S47) : List Int → Int → Bool
  | [], _ => true
  | x :: ks, en => if (rd_T47 l x).f1 = (rd_T47 l x).f2 then (if (rd_T47 l x).f1 < nd.f1 then false else rf l nd ks en) else (if (rd_T47 l x).f1 < en then false else if (rd_T47 l x).f2 > nd.f2 then false else rf l nd ks (rd_T47 l x).f2)
def allV (l : List S47) (q : Int) : Nat → Int → Bool
  | 0, _ => true
  | f + 1, n => okS l q n && ((vfold l (rd_T47 l n) (kspec l n).1).1 && allV l q f (n + 1))
def allR (l : List S47) (q : Int) : Nat → Int → Bool
  | 0, _ => true
  | f + 1, n => okS l q n && (rf l (rd_T47 l n) (kidsOf l n) (rd_T47 l n).f1 && allR l q f (n + 1))
theorem kgo_mem (l : List S47) (en : Int) : ∀ (d : Nat) (pre : List Int) (x lo : Int), lo ≤ x → (∀ y ∈ pre, lo ≤ y ∧ y < en) → ∀ y ∈ (kgo l en d pre x).1, lo ≤ y ∧ y < en
  | 0, pre, x, lo, _, h => h
  | d + 1, pre, x, lo, hx, h => by
    simp only [kgo]
    split
    · rename_i hlt
      have h2 : ∀ y ∈ pre ++ [x], lo ≤ y ∧ y < en := by
        intro y hy
        rcases List.mem_append.1 hy with hy | hy
        · exact h y hy
        · have : y = x := by simpa using hy
          omega
      split
      · exact h2
      · split
        · exact h2
        · exact kgo_mem l en d _ _ lo (by omega) h2
    · exact h
theorem kspec_mem (l : List S47) (n : Int) : ∀ y ∈ (kspec l n).1, 0 ≤ y ∧ y < (l.length : Int) := by
  unfold kspec
  split
  · rename_i hs
    unfold sizedB at hs
    simp only [Bool.and_eq_true, decide_eq_true_eq] at hs
    intro y hy
    have := kgo_mem l _ _ [] (n + 1) (n + 1) (Int.le_refl _) (fun y hy => by cases hy) y hy
    omega
  · intro y hy; cases hy
theorem fold_rf (l : List S47) (nd : S47) (q : Int) (hok : ∀ m, 0 ≤ m → m < (l.length : Int) → okS l q m = true) : ∀ (ks : List Int), (∀ y ∈ ks, 0 ≤ y ∧ y < (l.length : Int)) → ∀ (g : Bool) (a : Int),
    (ks.foldl (fun s x => vstep nd (rd_T47 l x) s.1 s.2) (g, a)).1 = (g && rf l nd ks a)
  | [], _, g, a => by simp [rf]
  | x :: ks, hm, g, a => by
    have ih := fold_rf l nd q hok ks (fun y hy => hm y (List.mem_cons_of_mem _ hy))
    have h1 := hm x List.mem_cons_self
    have h2 := hok x h1.1 h1.2
    unfold okS at h2
    simp only [Bool.and_eq_true, decide_eq_true_eq] at h2
    simp only [List.foldl_cons, rf]
    generalize rd_T47 l x = y at *
    by_cases c : y.f1 = y.f2
    · have hv : vstep nd y g a = (g && decide (nd.f1 ≤ y.f1), a) := by unfold vstep; rw [if_pos c]
      rw [hv, ih, if_pos c]
      by_cases c2 : y.f1 < nd.f1
      · rw [if_pos c2, decide_eq_false (show ¬ nd.f1 ≤ y.f1 by omega)]; simp
      · rw [if_neg c2, decide_eq_true (show nd.f1 ≤ y.f1 by omega), Bool.and_true]
    · have hv : vstep nd y g a = (g && decide (a ≤ y.f1) && decide (y.f2 ≤ nd.f2), mx a y.f2) := by unfold vstep; rw [if_neg c]
      rw [hv, ih, if_neg c]
      by_cases c2 : y.f1 < a
      · rw [if_pos c2, decide_eq_false (show ¬ a ≤ y.f1 by omega)]; simp
      · rw [if_neg c2, decide_eq_true (show a ≤ y.f1 by omega)]
        have hmx : mx a y.f2 = y.f2 := by unfold mx; omega
        rw [hmx]
        by_cases c3 : y.f2 > nd.f2
        · rw [if_pos c3, decide_eq_false (show ¬ y.f2 ≤ nd.f2 by omega)]; simp
        · rw [if_neg c3, decide_eq_true (show y.f2 ≤ nd.f2 by omega)]; simp
theorem all_same (l : List S47) (q : Int) (hg : ∀ m, 0 ≤ m → m < (l.length : Int) → (kspec l m).2 = true) (hok : ∀ m, 0 ≤ m → m < (l.length : Int) → okS l q m = true) : ∀ (f : Nat) (n : Int), (l.length : Int) - n = f → 0 ≤ n → allV l q f n = allR l q f n
  | 0, _, _, _ => rfl
  | f + 1, n, hf, h0 => by
    simp only [allV, allR]
    rw [all_same l q hg hok f (n + 1) (by omega) (by omega)]
    have h1 := fold_rf l (rd_T47 l n) q hok (kspec l n).1 (kspec_mem l n) true (rd_T47 l n).f1
    have h2 : kidsOf l n = (kspec l n).1 := by unfold kidsOf; rw [if_pos (hg n h0 (by omega))]
    unfold vfold
    rw [h1, h2, Bool.true_and]
theorem all_bad (l : List S47) (q m : Int) (h : okS l q m = false) : ∀ (f : Nat) (n : Int), n ≤ m → m < n + f → allV l q f n = false ∧ allR l q f n = false
  | 0, n, h1, h2 => by omega
  | f + 1, n, h1, h2 => by
    simp only [allV, allR]
    by_cases c : n = m
    · rw [c, h]; simp
    · obtain ⟨i1, i2⟩ := all_bad l q m h f (n + 1) (by omega) (by omega)
      rw [i1, i2]; simp
theorem all_eq (l : List S47) (q : Int) (hg : ∀ m, 0 ≤ m → m < (l.length : Int) → (kspec l m).2 = true) : allV l q l.length 0 = allR l q l.length 0 := by
  by_cases h : ∀ m, 0 ≤ m → m < (l.length : Int) → okS l q m = true
  · exact all_same l q hg h l.length 0 (by omega) (by omega)
  · obtain ⟨m, hm⟩ : ∃ m, ¬ (0 ≤ m → m < (l.length : Int) → okS l q m = true) := Classical.byContradiction fun hh => h (fun m => Classical.byContradiction fun h3 => hh ⟨m, h3⟩)
    have h0 : 0 ≤ m := Classical.byContradiction fun h3 => hm (fun h4 => absurd h4 h3)
    have h1 : m < (l.length : Int) := Classical.byContradiction fun h3 => hm (fun _ h4 => absurd h4 h3)
    have h2 : okS l q m = false := by
      cases hh : okS l q m with
      | false => rfl
      | true => exact absurd (fun _ _ => hh) hm
    obtain ⟨i1, i2⟩ := all_bad l q m h2 l.length 0 h0 (by omega)
    rw [i1, i2]
theorem allG_at (l : List S47) : ∀ (f : Nat) (n : Int), allG l f n = true → ∀ m, n ≤ m → m < n + f → (kspec l m).2 = true
  | 0, n, _, m, h1, h2 => by omega
  | f + 1, n, h, m, h1, h2 => by
    simp only [allG, Bool.and_eq_true] at h
    by_cases c : n = m
    · subst c
      have := h.1
      unfold good at this
      simp only [Bool.and_eq_true] at this
      exact this.1
    · exact allG_at l f (n + 1) h.2 m (by omega) (by omega)
def validB (l : List S47) (q : Int) : Bool := shapedB l && allR l q l.length 0

theorem valid_loop (l : List S47) (hl : l.length ≤ 4398046511104) (q : Int) : ∀ (f : Nat) (n : Int), (l.length : Int) - n = f → 0 ≤ n → Ev (fun k => tree_Valid.l0 k l q n) (allV l q f n)
  | 0, n, hf, h0 => by
    refine ⟨1, fun m hm => ?_⟩
    obtain ⟨k, rfl⟩ : ∃ j, m = j + 1 := ⟨m - 1, by omega⟩
    simp only [tree_Valid.l0, allV]
    rw [if_neg (by omega)]
  | f + 1, n, hf, h0 => by
    have hlt : n < (l.length : Int) := by omega
    have ih := valid_loop l hl q f (n + 1) (by omega) (by omega)
    have hw1 : wrap64 (n + 1) = n + 1 := kw64 (by omega) (by omega)
    obtain ⟨k1, _, _⟩ := Kids_all l hl n
    simp only [allV]
    unfold okS
    have e : ∀ k, tree_Valid.l0 (k + 1) l q n = if (rd_T47 l n).f1 < 0 then some false else if (rd_T47 l n).f2 < (rd_T47 l n).f1 then some false else if (rd_T47 l n).f2 > q then some false else (kids.f k l n).bind fun r => (if (vfold l (rd_T47 l n) r.1).1 = true then tree_Valid.l0 k l q (n + 1) else some false) := by
      intro k
      simp only [tree_Valid.l0, hw1]
      rw [if_pos hlt, if_pos h0]
    by_cases c1 : (rd_T47 l n).f1 < 0
    · rw [decide_eq_false (show ¬ 0 ≤ (rd_T47 l n).f1 by omega)]
      exact ⟨1, fun m hm => by obtain ⟨k, rfl⟩ : ∃ j, m = j + 1 := ⟨m - 1, by omega⟩; simp only; rw [e, if_pos c1]; simp⟩
    · rw [decide_eq_true (show 0 ≤ (rd_T47 l n).f1 by omega)]
      by_cases c2 : (rd_T47 l n).f2 < (rd_T47 l n).f1
      · rw [decide_eq_false (show ¬ (rd_T47 l n).f1 ≤ (rd_T47 l n).f2 by omega)]
        exact ⟨1, fun m hm => by obtain ⟨k, rfl⟩ : ∃ j, m = j + 1 := ⟨m - 1, by omega⟩; simp only; rw [e, if_neg c1, if_pos c2]; simp⟩
      · rw [decide_eq_true (show (rd_T47 l n).f1 ≤ (rd_T47 l n).f2 by omega)]
        by_cases c3 : (rd_T47 l n).f2 > q
        · rw [decide_eq_false (show ¬ (rd_T47 l n).f2 ≤ q by omega)]
          exact ⟨1, fun m hm => by obtain ⟨k, rfl⟩ : ∃ j, m = j + 1 := ⟨m - 1, by omega⟩; simp only; rw [e, if_neg c1, if_neg c2, if_pos c3]; simp⟩
        · rw [decide_eq_true (show (rd_T47 l n).f2 ≤ q by omega)]
          refine Ev.step (f := fun k => (kids.f k l n).bind fun r => (if (vfold l (rd_T47 l n) r.1).1 = true then tree_Valid.l0 k l q (n + 1) else some false)) (fun k => by rw [e, if_neg c1, if_neg c2, if_neg c3]) ?_
          refine k1.bind ?_
          by_cases c4 : (vfold l (rd_T47 l n) (kspec l n).1).1 = true
          · simp only [if_pos c4]
            rw [c4]
            simpa using ih
          · simp only [if_neg c4]
            rw [show (vfold l (rd_T47 l n) (kspec l n).1).1 = false by simpa using c4]
            simpa using Ev.now false
theorem Valid_is (l : List S47) (hl : l.length ≤ 4398046511104) (q : Int) : Ev (fun k => tree_Valid.f k l q) (validB l q) := by
  unfold tree_Valid.f validB
  refine (shaped_is l hl).bind ?_
  by_cases h : shapedB l = true
  · simp only [if_pos h]
    have h2 := h
    unfold shapedB at h2
    simp only [Bool.and_eq_true, decide_eq_true_eq] at h2
    rw [h, Bool.true_and, ← all_eq l q (fun m h3 h4 => allG_at l l.length 0 h2.2.2 m h3 (by omega))]
    exact valid_loop l hl q l.length 0 (by omega) (by omega)
  · simp only [if_neg h]
    rw [show shapedB l = false by simpa using h]
    exact Ev.now _

theorem rvalid_in (l : List S47) (q n : Int) (nd : S47) (ks : List Int) (hk : ks.length ≤ 4398046511104) (hm : ∀ y ∈ ks, 0 ≤ y ∧ y < (l.length : Int)) (r : Bool) (hr : Ev (fun k => monikerref4_Valid.l0 k q (wrap64 (n + 1)) l) r) (d : Nat) : ∀ (i : Nat) (en : Int), i ≤ ks.length → ks.length - i = d →
    Ev (fun k => monikerref4_Valid.l1 k q n ks en (i : Int) l nd.f0 nd.f1 nd.f2 nd.f3) (rf l nd (ks.drop i) en && r) := by
  induction d with
  | zero =>
    intro i en h1 h2
    rw [List.drop_eq_nil_of_le (by omega)]
    simp only [rf, Bool.true_and]
    refine Ev.step (fun k => ?_) hr
    simp only [monikerref4_Valid.l1]
    rw [if_neg (by omega)]
  | succ d ih =>
    intro i en h1 h2
    have hi : i < ks.length := by omega
    have hw : wrap64 ((i : Int) + 1) = ((i + 1 : Nat) : Int) := kw64 (by omega) (by omega)
    have hrd : rd ks (i : Int) = ks[i] := by simp [rd, List.getD_eq_getElem?_getD, hi]
    have hmi := hm _ (List.getElem_mem hi)
    have e : ∀ k, monikerref4_Valid.l1 (k + 1) q n ks en (i : Int) l nd.f0 nd.f1 nd.f2 nd.f3 = if (rd_T47 l ks[i]).f1 = (rd_T47 l ks[i]).f2 then (if (rd_T47 l ks[i]).f1 < nd.f1 then some false else monikerref4_Valid.l1 k q n ks en ((i + 1 : Nat) : Int) l nd.f0 nd.f1 nd.f2 nd.f3) else (if (rd_T47 l ks[i]).f1 < en then some false else if (rd_T47 l ks[i]).f2 > nd.f2 then some false else monikerref4_Valid.l1 k q n ks (rd_T47 l ks[i]).f2 ((i + 1 : Nat) : Int) l nd.f0 nd.f1 nd.f2 nd.f3) := by
      intro k
      simp only [monikerref4_Valid.l1, hrd, hw]
      rw [if_pos (by omega), if_pos (by omega), if_pos hmi.1, if_pos hmi.2]
    rw [List.drop_eq_getElem_cons hi]
    simp only [rf]
    by_cases c : (rd_T47 l ks[i]).f1 = (rd_T47 l ks[i]).f2
    · rw [if_pos c]
      by_cases c2 : (rd_T47 l ks[i]).f1 < nd.f1
      · rw [if_pos c2, Bool.false_and]
        exact ⟨1, fun m hm => by obtain ⟨k, rfl⟩ : ∃ j, m = j + 1 := ⟨m - 1, by omega⟩; simp only; rw [e, if_pos c, if_pos c2]⟩
      · rw [if_neg c2]
        refine Ev.step (fun k => ?_) (ih (i + 1) en (by omega) (by omega))
        rw [e, if_pos c, if_neg c2]
    · rw [if_neg c]
      by_cases c2 : (rd_T47 l ks[i]).f1 < en
      · rw [if_pos c2, Bool.false_and]
        exact ⟨1, fun m hm => by obtain ⟨k, rfl⟩ : ∃ j, m = j + 1 := ⟨m - 1, by omega⟩; simp only; rw [e, if_neg c, if_pos c2]⟩
      · rw [if_neg c2]
        by_cases c3 : (rd_T47 l ks[i]).f2 > nd.f2
        · rw [if_pos c3, Bool.false_and]
          exact ⟨1, fun m hm => by obtain ⟨k, rfl⟩ : ∃ j, m = j + 1 := ⟨m - 1, by omega⟩; simp only; rw [e, if_neg c, if_neg c2, if_pos c3]⟩
        · rw [if_neg c3]
          refine Ev.step (fun k => ?_) (ih (i + 1) _ (by omega) (by omega))
          rw [e, if_neg c, if_neg c2, if_neg c3]
theorem kidsOf_mem (l : List S47) (n : Int) : ∀ y ∈ kidsOf l n, 0 ≤ y ∧ y < (l.length : Int) := by
  unfold kidsOf
  split
  · exact kspec_mem l n
  · intro y hy; cases hy
theorem rvalid_loop (l : List S47) (hl : l.length ≤ 4398046511104) (q : Int) : ∀ (f : Nat) (n : Int), (l.length : Int) - n = f → 0 ≤ n → Ev (fun k => monikerref4_Valid.l0 k q n l) (allR l q f n)
  | 0, n, hf, h0 => by
    refine ⟨1, fun m hm => ?_⟩
    obtain ⟨k, rfl⟩ : ∃ j, m = j + 1 := ⟨m - 1, by omega⟩
    simp only [monikerref4_Valid.l0, allR]
    rw [if_neg (by omega)]
  | f + 1, n, hf, h0 => by
    have hlt : n < (l.length : Int) := by omega
    have ih := rvalid_loop l hl q f (n + 1) (by omega) (by omega)
    have hw1 : wrap64 (n + 1) = n + 1 := kw64 (by omega) (by omega)
    obtain ⟨_, k2, k3⟩ := Kids_all l hl n
    have hkl : (kidsOf l n).length ≤ 4398046511104 := by unfold kidsOf; split; omega; simp
    simp only [allR]
    unfold okS
    have hbad : Ev (fun k => monikerref4_Valid.j1 k q n true l (rd_T47 l n).f0 (rd_T47 l n).f1 (rd_T47 l n).f2 (rd_T47 l n).f3) false := ⟨1, fun m hm => by
      obtain ⟨k, rfl⟩ : ∃ j, m = j + 1 := ⟨m - 1, by omega⟩
      simp only [monikerref4_Valid.j1]; rfl⟩
    by_cases c1 : (rd_T47 l n).f1 < 0
    · rw [decide_eq_false (show ¬ 0 ≤ (rd_T47 l n).f1 by omega), Bool.false_and, Bool.false_and]
      refine Ev.step (fun k => ?_) hbad
      simp only [monikerref4_Valid.l0]
      rw [if_pos hlt, if_pos h0, if_pos c1]
    · rw [decide_eq_true (show 0 ≤ (rd_T47 l n).f1 by omega), Bool.true_and]
      by_cases c2 : (rd_T47 l n).f2 < (rd_T47 l n).f1
      · rw [decide_eq_false (show ¬ (rd_T47 l n).f1 ≤ (rd_T47 l n).f2 by omega), Bool.false_and, Bool.false_and]
        refine Ev.step (fun k => ?_) hbad
        simp only [monikerref4_Valid.l0]
        rw [if_pos hlt, if_pos h0, if_neg c1, if_pos c2]
      · rw [decide_eq_true (show (rd_T47 l n).f1 ≤ (rd_T47 l n).f2 by omega), Bool.true_and]
        by_cases c3 : (rd_T47 l n).f2 > q
        · rw [decide_eq_false (show ¬ (rd_T47 l n).f2 ≤ q by omega), Bool.false_and]
          refine Ev.step (fun k => ?_) hbad
          simp only [monikerref4_Valid.l0]
          rw [if_pos hlt, if_pos h0, if_neg c1, if_neg c2, decide_eq_true c3]
        · rw [decide_eq_true (show (rd_T47 l n).f2 ≤ q by omega), Bool.true_and]
          refine Ev.step (f := fun k => monikerref4_Valid.j1 k q n false l (rd_T47 l n).f0 (rd_T47 l n).f1 (rd_T47 l n).f2 (rd_T47 l n).f3) (fun k => by
            simp only [monikerref4_Valid.l0]
            rw [if_pos hlt, if_pos h0, if_neg c1, if_neg c2, decide_eq_false c3]) ?_
          refine Ev.step (f := fun k => (monikerref4_Kids.f k l n).bind fun bt301 => (monikerref4_Valid.l1 k q n bt301.1 (rd_T47 l n).f1 0 l (rd_T47 l n).f0 (rd_T47 l n).f1 (rd_T47 l n).f2 (rd_T47 l n).f3)) (fun k => by
            simp only [monikerref4_Valid.j1]
            rw [if_neg (by simp)]) ?_
          refine k3.bind ?_
          have := rvalid_in l q n (rd_T47 l n) (kidsOf l n) hkl (kidsOf_mem l n) _ (by rw [hw1]; exact ih) _ 0 (rd_T47 l n).f1 (by omega) rfl
          simpa using this
theorem RValid_is (l : List S47) (hl : l.length ≤ 4398046511104) (hk : ∀ x ∈ l, 0 ≤ x.f0 ∧ x.f0 ≤ 255) (q : Int) : Ev (fun k => monikerref4_Valid.f k l q) (validB l q) := by
  unfold monikerref4_Valid.f validB
  refine (RShaped_is l hl hk).bind ?_
  by_cases h : shapedB l = true
  · simp only [if_pos h]
    rw [h, Bool.true_and]
    exact rvalid_loop l hl q l.length 0 (by omega) (by omega)
  · simp only [if_neg h]
    rw [show shapedB l = false by simpa using h]
    exact Ev.now _
end Go.Proofs.Ytodldpdnhcafpaa.Q

namespace Go.Proofs.Ytodldpdnhcafpaa.Q
open Go.RowKit Go.Proofs.YtodldpdnhcafpaaW.PrintWords Go.Proofs.YtodldpdnhcafpaaW.PrintLast Go.Proofs.YtodldpdnhcafpaaW.PrintMore
open Go.Proofs.Ytodldpdnhcafpaa.F Go.Proofs.Ytodldpdnhcafpaa.K
set_option linter.unusedSimpArgs false
set_option linter.unusedVariables false

theorem tokR_cons (l : List S61) {a b : Int} (h : a < b) : tokR l a b = (if tokB l a = true then [a] else []) ++ tokR l (a + 1) b := by
  have e : (b - a).toNat = (b - (a + 1)).toNat + 1 := by omega
  have e2 : ((fun j : Nat => a + (j : Int)) ∘ Nat.succ) = (fun j : Nat => a + 1 + (j : Int)) := by
    funext j
    show a + ((j + 1 : Nat) : Int) = a + 1 + (j : Int)
    omega
  unfold tokR
  rw [e, List.range_succ_eq_map, List.map_cons, List.map_map, e2, List.filter_cons]
  rw [show a + ((0 : Nat) : Int) = a by omega]
  split <;> simp

end Go.Proofs.Ytodldpdnhcafpaa.Q

namespace Go.Proofs.Ytodldpdnhcafpaa.Q
open Go.RowKit Go.Proofs.YtodldpdnhcafpaaW.PrintWords Go.Proofs.YtodldpdnhcafpaaW.PrintLast Go.Proofs.YtodldpdnhcafpaaW.PrintMore
open Go.Proofs.Ytodldpdnhcafpaa.F Go.Proofs.Ytodldpdnhcafpaa.K
set_option linter.unusedSimpArgs false
set_option linter.unusedVariables false

/-- What a Walk that is left behind s numbers has given; s below 0: it is not left. -/
def upto (s : Int) (pre ws : List Int) : List Int := if s < 0 then pre ++ ws else pre ++ ws.take (s.toNat - pre.length)
end Go.Proofs.Ytodldpdnhcafpaa.Q

-- A text of this session's own program (wip/myprint.sh over a changed print tool): functions and their walks
namespace Go.Proofs.Ytodldpdnhcafpaa.F
open Go.RowKit Go.Proofs.YtodldpdnhcafpaaW.PrintWords Go.Proofs.YtodldpdnhcafpaaW.PrintLast Go.Proofs.YtodldpdnhcafpaaW.PrintMore
attribute [local go_sem] max2_int min2_int max_two min_two max_three min_three max_four min_four   -- for this text's walks alone
set_option linter.unusedVariables false
set_option linter.unusedSimpArgs false

/-! ### tree_word: function 48 -/
def tree_word.f (a0 : ByteArray) (a1_0 : Int) (a1_1 : Int) (a1_2 : Int) : Option (ByteArray) := if a1_1 < 0 then (some (⟨#[]⟩ : ByteArray)) else (if a1_2 < a1_1 then (some (⟨#[]⟩ : ByteArray)) else (if a1_2 > (a0.size : Int) then (some (⟨#[]⟩ : ByteArray)) else (if 0 ≤ a1_1 then (if a1_1 ≤ a1_2 then (if a1_2 ≤ (a0.size : Int) then (some (a0.extract (a1_1 : Int).toNat (a1_2 : Int).toNat)) else (none)) else (none)) else (none))))
set_option maxHeartbeats 8000000 in
set_option maxRecDepth 100000 in
theorem tree_word.calls (a0 : ByteArray) (a1_0 : Int) (a1_1 : Int) (a1_2 : Int) (r : ByteArray) (w : World) (h : tree_word.f a0 a1_0 a1_1 a1_2 = some r) :
    Calls Try.prog 48 #[.string a0, .agg #[.int .u8 a1_0, .int .i64 a1_1, .int .i64 a1_2]] w fun e w' => e = .returned (.string r) ∧ Below w.heap.size w w' := by
  have hu61 := Try.underlying61
  have HB := Aside0.mk (Below.refl w.heap.size w)
  have H : (if a1_1 < 0 then (some (⟨#[]⟩ : ByteArray)) else (if a1_2 < a1_1 then (some (⟨#[]⟩ : ByteArray)) else (if a1_2 > (a0.size : Int) then (some (⟨#[]⟩ : ByteArray)) else (if 0 ≤ a1_1 then (if a1_1 ≤ a1_2 then (if a1_2 ≤ (a0.size : Int) then (some (a0.extract (a1_1 : Int).toNat (a1_2 : Int).toNat)) else (none)) else (none)) else (none))))) = some r := h
  clear h
  by_cases c3 : a1_1 < 0
  · rw [if_pos c3] at H
    have c3b0 : decide (a1_1 < 0) = true := decide_eq_true c3
    clear c3
    obtain rfl := Option.some.inj H
    go_enter Try.func48, Try.ntmps48
    go_wp2_with (first | ((with_reducible refine gate_dst (N := 3) rfl ?_); (try (refine gate_guard (by rfl) ?_; dsimp only)); refine box_event ?hg (N := 3) ?hd (cs := #[.int .u8 a1_0, .int .i64 a1_1, .int .i64 a1_2]) (t := 61) ?hr ?_; (case hd => rfl); (case hg => rfl); (case hr => first | (go_simp; done) | (go_simp; rfl)); intro gb170 hg w4 hbox hb; have n0_ := Aside0.mk (below_step (by repeat (first | (with_reducible first | exact HB.out | apply below_alloc | apply pw_below_drewN | apply below_drew1) | exact HB.out)) hb); have n1_ := Aside0.mk (hbox); have n2_ := Aside0.mk ((by rw [hg]; exact (below_size (by repeat (first | (with_reducible first | exact HB.out | apply below_alloc | apply pw_below_drewN | apply below_drew1) | exact HB.out))) : w.heap.size ≤ gb170)); have n3_ := Aside0.mk ((by rw [hg]; exact (below_size (by repeat (first | (with_reducible first | exact HB.out | apply below_alloc | apply pw_below_drewN | apply below_drew1) | exact HB.out))) : w.heap.size ≤ gb170)); clear HB; have HB := n0_; have BK170 := n1_; have GW170 := n2_; have GE170 := n3_; clear n0_ n1_ n2_ n3_; clear hb hbox hg; have hcz5_0 : w4.cell? ⟨gb170, 0, none⟩ = some (.int .u8 a1_0) := (blk_cell BK170.out 0).trans rfl; have hcz5_1 : w4.cell? ⟨gb170, 1, none⟩ = some (.int .i64 a1_1) := (blk_cell BK170.out 1).trans rfl; have hcz5_2 : w4.cell? ⟨gb170, 2, none⟩ = some (.int .i64 a1_2) := (blk_cell BK170.out 2).trans rfl; have hfz5_0 := blk_frozen BK170.out 0; have hfz5_1 := blk_frozen BK170.out 1; have hfz5_2 := blk_frozen BK170.out 2))
    go_ret
    exact ⟨by first | rfl | (simp [errW_none, errW_some] <;> rfl) | (simp [*, errW_none, errW_some] <;> rfl), by repeat (first | (with_reducible first | exact HB.out | apply below_alloc | apply pw_below_drewN | apply below_drew1 | refine below_set ?_ GE170.out) | exact HB.out)⟩
  · rw [if_neg c3] at H
    have c3b0 : decide (a1_1 < 0) = false := decide_eq_false c3
    clear c3
    by_cases c6 : a1_2 < a1_1
    · rw [if_pos c6] at H
      have c6b0 : decide (a1_2 < a1_1) = true := decide_eq_true c6
      clear c6
      obtain rfl := Option.some.inj H
      go_enter Try.func48, Try.ntmps48
      go_wp2_with (first | ((with_reducible refine gate_dst (N := 3) rfl ?_); (try (refine gate_guard (by rfl) ?_; dsimp only)); refine box_event ?hg (N := 3) ?hd (cs := #[.int .u8 a1_0, .int .i64 a1_1, .int .i64 a1_2]) (t := 61) ?hr ?_; (case hd => rfl); (case hg => rfl); (case hr => first | (go_simp; done) | (go_simp; rfl)); intro gb170 hg w7 hbox hb; have n0_ := Aside0.mk (below_step (by repeat (first | (with_reducible first | exact HB.out | apply below_alloc | apply pw_below_drewN | apply below_drew1) | exact HB.out)) hb); have n1_ := Aside0.mk (hbox); have n2_ := Aside0.mk ((by rw [hg]; exact (below_size (by repeat (first | (with_reducible first | exact HB.out | apply below_alloc | apply pw_below_drewN | apply below_drew1) | exact HB.out))) : w.heap.size ≤ gb170)); have n3_ := Aside0.mk ((by rw [hg]; exact (below_size (by repeat (first | (with_reducible first | exact HB.out | apply below_alloc | apply pw_below_drewN | apply below_drew1) | exact HB.out))) : w.heap.size ≤ gb170)); clear HB; have HB := n0_; have BK170 := n1_; have GW170 := n2_; have GE170 := n3_; clear n0_ n1_ n2_ n3_; clear hb hbox hg; have hcz8_0 : w7.cell? ⟨gb170, 0, none⟩ = some (.int .u8 a1_0) := (blk_cell BK170.out 0).trans rfl; have hcz8_1 : w7.cell? ⟨gb170, 1, none⟩ = some (.int .i64 a1_1) := (blk_cell BK170.out 1).trans rfl; have hcz8_2 : w7.cell? ⟨gb170, 2, none⟩ = some (.int .i64 a1_2) := (blk_cell BK170.out 2).trans rfl; have hfz8_0 := blk_frozen BK170.out 0; have hfz8_1 := blk_frozen BK170.out 1; have hfz8_2 := blk_frozen BK170.out 2))
      go_ret
      exact ⟨by first | rfl | (simp [errW_none, errW_some] <;> rfl) | (simp [*, errW_none, errW_some] <;> rfl), by repeat (first | (with_reducible first | exact HB.out | apply below_alloc | apply pw_below_drewN | apply below_drew1 | refine below_set ?_ GE170.out) | exact HB.out)⟩
    · rw [if_neg c6] at H
      have c6b0 : decide (a1_2 < a1_1) = false := decide_eq_false c6
      clear c6
      by_cases c9 : a1_2 > (a0.size : Int)
      · rw [if_pos c9] at H
        have c9b0 : decide ((a0.size : Int) < a1_2) = true := decide_eq_true c9
        clear c9
        obtain rfl := Option.some.inj H
        go_enter Try.func48, Try.ntmps48
        go_wp2_with (first | ((with_reducible refine gate_dst (N := 3) rfl ?_); (try (refine gate_guard (by rfl) ?_; dsimp only)); refine box_event ?hg (N := 3) ?hd (cs := #[.int .u8 a1_0, .int .i64 a1_1, .int .i64 a1_2]) (t := 61) ?hr ?_; (case hd => rfl); (case hg => rfl); (case hr => first | (go_simp; done) | (go_simp; rfl)); intro gb170 hg w10 hbox hb; have n0_ := Aside0.mk (below_step (by repeat (first | (with_reducible first | exact HB.out | apply below_alloc | apply pw_below_drewN | apply below_drew1) | exact HB.out)) hb); have n1_ := Aside0.mk (hbox); have n2_ := Aside0.mk ((by rw [hg]; exact (below_size (by repeat (first | (with_reducible first | exact HB.out | apply below_alloc | apply pw_below_drewN | apply below_drew1) | exact HB.out))) : w.heap.size ≤ gb170)); have n3_ := Aside0.mk ((by rw [hg]; exact (below_size (by repeat (first | (with_reducible first | exact HB.out | apply below_alloc | apply pw_below_drewN | apply below_drew1) | exact HB.out))) : w.heap.size ≤ gb170)); clear HB; have HB := n0_; have BK170 := n1_; have GW170 := n2_; have GE170 := n3_; clear n0_ n1_ n2_ n3_; clear hb hbox hg; have hcz11_0 : w10.cell? ⟨gb170, 0, none⟩ = some (.int .u8 a1_0) := (blk_cell BK170.out 0).trans rfl; have hcz11_1 : w10.cell? ⟨gb170, 1, none⟩ = some (.int .i64 a1_1) := (blk_cell BK170.out 1).trans rfl; have hcz11_2 : w10.cell? ⟨gb170, 2, none⟩ = some (.int .i64 a1_2) := (blk_cell BK170.out 2).trans rfl; have hfz11_0 := blk_frozen BK170.out 0; have hfz11_1 := blk_frozen BK170.out 1; have hfz11_2 := blk_frozen BK170.out 2))
        go_ret
        exact ⟨by first | rfl | (simp [errW_none, errW_some] <;> rfl) | (simp [*, errW_none, errW_some] <;> rfl), by repeat (first | (with_reducible first | exact HB.out | apply below_alloc | apply pw_below_drewN | apply below_drew1 | refine below_set ?_ GE170.out) | exact HB.out)⟩
      · rw [if_neg c9] at H
        have c9b0 : decide ((a0.size : Int) < a1_2) = false := decide_eq_false c9
        clear c9
        by_cases c12 : 0 ≤ a1_1
        · rw [if_pos c12] at H
          have c12b0 := eq_true c12
          have c12b1 : decide (0 ≤ a1_1) = true := decide_eq_true c12
          clear c12
          by_cases c13 : a1_1 ≤ a1_2
          · rw [if_pos c13] at H
            have c13b0 := eq_true c13
            have c13b1 : decide (a1_1 ≤ a1_2) = true := decide_eq_true c13
            clear c13
            by_cases c14 : a1_2 ≤ (a0.size : Int)
            · rw [if_pos c14] at H
              have c14b0 := eq_true c14
              have c14b1 : decide (a1_2 ≤ (a0.size : Int)) = true := decide_eq_true c14
              clear c14
              obtain rfl := Option.some.inj H
              go_enter Try.func48, Try.ntmps48
              go_wp2_with (first | ((with_reducible refine gate_dst (N := 3) rfl ?_); (try (refine gate_guard (by rfl) ?_; dsimp only)); refine box_event ?hg (N := 3) ?hd (cs := #[.int .u8 a1_0, .int .i64 a1_1, .int .i64 a1_2]) (t := 61) ?hr ?_; (case hd => rfl); (case hg => rfl); (case hr => first | (go_simp; done) | (go_simp; rfl)); intro gb170 hg w15 hbox hb; have n0_ := Aside0.mk (below_step (by repeat (first | (with_reducible first | exact HB.out | apply below_alloc | apply pw_below_drewN | apply below_drew1) | exact HB.out)) hb); have n1_ := Aside0.mk (hbox); have n2_ := Aside0.mk ((by rw [hg]; exact (below_size (by repeat (first | (with_reducible first | exact HB.out | apply below_alloc | apply pw_below_drewN | apply below_drew1) | exact HB.out))) : w.heap.size ≤ gb170)); have n3_ := Aside0.mk ((by rw [hg]; exact (below_size (by repeat (first | (with_reducible first | exact HB.out | apply below_alloc | apply pw_below_drewN | apply below_drew1) | exact HB.out))) : w.heap.size ≤ gb170)); clear HB; have HB := n0_; have BK170 := n1_; have GW170 := n2_; have GE170 := n3_; clear n0_ n1_ n2_ n3_; clear hb hbox hg; have hcz16_0 : w15.cell? ⟨gb170, 0, none⟩ = some (.int .u8 a1_0) := (blk_cell BK170.out 0).trans rfl; have hcz16_1 : w15.cell? ⟨gb170, 1, none⟩ = some (.int .i64 a1_1) := (blk_cell BK170.out 1).trans rfl; have hcz16_2 : w15.cell? ⟨gb170, 2, none⟩ = some (.int .i64 a1_2) := (blk_cell BK170.out 2).trans rfl; have hfz16_0 := blk_frozen BK170.out 0; have hfz16_1 := blk_frozen BK170.out 1; have hfz16_2 := blk_frozen BK170.out 2))
              go_ret
              exact ⟨by first | rfl | (simp [errW_none, errW_some] <;> rfl) | (simp [*, errW_none, errW_some] <;> rfl), by repeat (first | (with_reducible first | exact HB.out | apply below_alloc | apply pw_below_drewN | apply below_drew1 | refine below_set ?_ GE170.out) | exact HB.out)⟩
            · rw [if_neg c14] at H
              exact absurd H (by simp)
          · rw [if_neg c13] at H
            exact absurd H (by simp)
        · rw [if_neg c12] at H
          exact absurd H (by simp)

end Go.Proofs.Ytodldpdnhcafpaa.F

-- Text (29): its contract (made by wip/mkgtext.py)
namespace Go.Proofs.Ytodldpdnhcafpaa.F
open Go.RowKit Go.Shelf Go.Proofs.YtodldpdnhcafpaaW.PrintWords Go.Proofs.YtodldpdnhcafpaaW.PrintLast Go.Proofs.YtodldpdnhcafpaaW.PrintMore
open Go.Proofs.Ytodldpdnhcafpaa.K
attribute [local go_sem] Oper.semAt_some
set_option linter.unusedVariables false
set_option linter.unusedSimpArgs false

theorem info5 : (Try.prog.info? 5).map (fun i => (i.zero, i.size, i.bytes)) = some (some (.int .u8 0), 1, 1) := by kernel_rfl
def wordB (t : ByteArray) (x : S61) : ByteArray := if x.f1 < 0 then ⟨#[]⟩ else if x.f2 < x.f1 then ⟨#[]⟩ else if x.f2 > (t.size : Int) then ⟨#[]⟩ else t.extract x.f1.toNat x.f2.toNat
theorem word_is (t : ByteArray) (x : S61) : tree_word.f t x.f0 x.f1 x.f2 = some (wordB t x) := by
  unfold tree_word.f wordB
  split
  · rfl
  split
  · rfl
  split
  · rfl
  rw [if_pos (by omega), if_pos (by omega), if_pos (by omega)]
/-- One token's word behind what has come. -/
def textStep (t : ByteArray) (l : List S61) (bs : List Int) (i : Int) : List Int :=
  (if (wordB t (rd_T61 l i)).toList = [] then bs else if bs = [] then bs else bs ++ [32]) ++ bytesOf (wordB t (rd_T61 l i))
def textB (t : ByteArray) (l : List S61) (is : List Int) : List Int := is.foldl (textStep t l) []
theorem textB_snoc (t : ByteArray) (l : List S61) (is : List Int) (i : Int) : textB t l (is ++ [i]) = textStep t l (textB t l is) i := by
  unfold textB
  rw [List.foldl_append, List.foldl_cons, List.foldl_nil]
theorem wordB_size (t : ByteArray) (x : S61) : (wordB t x).size ≤ t.size := by
  unfold wordB
  repeat' split
  all_goals first | exact Nat.zero_le _ | (rw [ByteArray.size_extract]; omega)
theorem textB_len (t : ByteArray) (l : List S61) (is : List Int) : ∀ bs : List Int, (is.foldl (textStep t l) bs).length ≤ bs.length + is.length * (t.size + 1) := by
  induction is with
  | nil => intro bs; simp
  | cons i is ih =>
    intro bs
    rw [List.foldl_cons]
    refine Nat.le_trans (ih _) ?_
    have h1 : (textStep t l bs i).length ≤ bs.length + (t.size + 1) := by
      have hw := wordB_size t (rd_T61 l i)
      unfold textStep
      rw [List.length_append, bytesOf_length]
      split
      · omega
      split
      · omega
      · rw [List.length_append, List.length_singleton]; omega
    rw [List.length_cons, Nat.succ_mul]
    omega

/-- The normal way out alone. -/
def onlyN (Q : Exit → Act → World → Prop) : Exit → Act → World → Prop
  | .normal, a, w => Q .normal a w
  | _, _, _ => False
theorem onlyN_normal {Q : Exit → Act → World → Prop} {a : Act} {w : World} : onlyN Q .normal a w = Q .normal a w := rfl
theorem start_n {P : Program} {ops : Array Oper} {Q : Exit → Act → World → Prop} {S : World → Prop} {ds : List Nat} {id n : Nat} {a : Act} {w : World} (l : Array Bool) (hm : P.follows .mixedOrders = true) (hn : ops.size = n) (hl : Array.replicate n false = l) (hS : S w.drew)
    (h : S w.drew → wpAnyLast P .any ops (onlyN Q) S ds n l a w.drew) : (Code.region id ops true).wp P Q a w :=
  wp_mono (start_ l hm hn hl hS h) (fun e a w h => by cases e <;> first | exact h | exact h.elim)
theorem list_bridge_app {P : Program} {ops : Array Oper} {Q : Exit → Act → World → Prop} {n lp : Nat} {o : Oper} {rest : List Oper} {a : Act} {w : World} (_ho : ∃ xs ts, o.op = .call { callee := .builtin .append, args := xs, argTypes := ts }) (hd : (o :: rest).all noDefer = true) (h : wpList P ops (noOut Q) (o :: rest) a w) :
    wpListIn (Fence.wide.inRound lp) n P ops Q (o :: rest) a w := list_bridge _ hd a w h
def tree_Text.f (k : Nat) (t : ByteArray) (l : List S61) (ns : List S47) (n : Int) : Option ByteArray :=
  if n < 0 then some ⟨#[]⟩ else if n ≥ (ns.length : Int) then some ⟨#[]⟩ else
    if l.length < 4611686018427387904 ∧ (l.length + 1) * (t.size + 1) ≤ 140737488355328 then
      some (strOfNums (textB t l (tokR l (mx (rd_T47 ns n).f1 0) (mn (rd_T47 ns n).f2 (l.length : Int))))) else none
theorem not_row {W : World} {B : Nat} {t e : TypeId} {cs : Array Value} {d : Nat × Nat} (h : W.heap[B]? = some (.cells cs t d)) (hte : t ≠ e) {base size k : Nat} {v : Value} {xs : List Value} (hr : W.ownsRow base e size v k xs) : some B ≠ v.ownBlock := by
  rcases hr.2 with ⟨rfl, _⟩ | ⟨g, cap, cur, rfl, _, hgb, _⟩
  · simp [Value.ownBlock]
  · intro e'
    obtain rfl : B = g := by simpa [Value.ownBlock] using e'
    have := h.symm.trans hgb
    simp at this
    exact hte this.2.1
/-- A row in a box has been appended to and stored. -/
theorem app_step {W w1 : World} {g base : Nat} {v v1 : Value} {n m : Nat} {xs ys : List Value}
    (hbox : W.heap[g]? = some (.cells #[v] 70 (0, 0))) (hr : W.ownsRow base 5 1 v n xs) (hbase : base ≤ W.heap.size) (hge : base ≤ g) (hown' : w1.ownsRow base 5 1 v1 m ys) (hgr : W.grownBy w1 v.ownBlock) :
    (w1.setCell ⟨g, 0, none⟩ v1).heap[g]? = some (.cells #[v1] 70 (0, 0)) ∧ (w1.setCell ⟨g, 0, none⟩ v1).ownsRow base 5 1 v1 m ys ∧
    (∀ (B : Nat) (cs : Array Value) (t : Nat) (d : Nat × Nat), W.heap[B]? = some (.cells cs t d) → t ≠ 5 → B ≠ g → (w1.setCell ⟨g, 0, none⟩ v1).heap[B]? = some (.cells cs t d)) ∧
    KeepsOthers W (w1.setCell ⟨g, 0, none⟩ v1) ∧ Below base W (w1.setCell ⟨g, 0, none⟩ v1) := by
  have h1 : w1.heap[g]? = some (.cells #[v] 70 (0, 0)) := blk_grown hbox hgr (not_row hbox (by decide) hr)
  refine ⟨blk_put h1 0 _ rfl, hown'.kept (grownBy_setCell' w1 g v1) (.inr (not_row h1 (by decide) hown').symm), fun B cs t d hB ht hne => ?_, ?_, ?_⟩
  · exact (Below.heap_setCell w1 ⟨g, 0, none⟩ v1 B hne).trans ((hgr.block B (blk_lt hB) (not_row hB ht hr)).trans hB)
  · refine (KeepsOthers.of_grownBy hgr fun j o ej hj => ?_).trans (KeepsOthers.setCell _ _ _)
    rcases hr.2 with ⟨rfl, _⟩ | ⟨q, cap, cur, rfl, _, hgb, _⟩
    · simp [Value.ownBlock] at ej
    · obtain rfl : q = j := by simpa [Value.ownBlock] using ej
      rw [hgb] at hj; cases hj; rfl
  · refine ((Below.refl base W).grown hgr hbase fun j ej => ?_).setCell (p := ⟨g, 0, none⟩) hge v1
    rcases hr.2 with ⟨rfl, _⟩ | ⟨q, cap, cur, rfl, hb, _, _⟩
    · simp [Value.ownBlock] at ej
    · obtain rfl : q = j := by simpa [Value.ownBlock] using ej
      exact hb
theorem row_below {W W' : World} {base e size n : Nat} {v : Value} {xs : List Value} (h : W.ownsRow base e size v n xs) (hb : Below W.heap.size W W') : W'.ownsRow base e size v n xs :=
  h.kept (row := none) ⟨hb.os, hb.tape, hb.output, hb.size, fun k hk _ => hb.block k hk⟩ (by
    rcases h.2 with ⟨rfl, _⟩ | ⟨q, cap, cur, rfl, _⟩
    · exact .inl rfl
    · exact .inr (by simp [Value.ownBlock]))
def tree_Text.T4 : Bool × List (List Nat × List Nat) := (true, [([], []), ([], []), ([1], [1]), ([], []), ([2, 3], [2, 3]), ([4], [4]), ([0, 5], [0, 5])])
def tree_Text.B4 : List Nat := [0, 0, 2, 0, 14, 30, 63]
theorem tree_Text.tab4 : rtab .any (opsOf Try.f29 4) = tree_Text.T4 := by kernel_rfl
theorem tree_Text.bits4 : waitsOk tree_Text.T4.2 tree_Text.B4 = true := by kernel_rfl
def tree_Text.T6 : Bool × List (List Nat × List Nat) := (true, [([], []), ([], []), ([], []), ([1, 2], [1, 2]), ([3], [3]), ([0, 4], [0, 4]), ([5, 5, 0, 1, 2, 3, 4, 5], [5])])
def tree_Text.B6 : List Nat := [0, 0, 0, 6, 14, 31, 63]
theorem tree_Text.tab6 : rtab .any (opsOf Try.f29 6) = tree_Text.T6 := by kernel_rfl
theorem tree_Text.bits6 : waitsOk tree_Text.T6.2 tree_Text.B6 = true := by kernel_rfl
set_option maxHeartbeats 4000000 in
set_option maxRecDepth 100000 in
theorem tree_Text.calls (k : Nat) (a0 : ByteArray) (A1 : Option Addr) (c1 : Nat) (l1 : List S61) (A2_0 : Option Addr) (c2_0 : Nat) (l2_0 : List S47) (a3 : Int) (r : ByteArray) (w : World) (hr1 : Kd.C k61 w A1 l1.length l1) (hc1 : l1.length ≤ c1) (hr2_0 : Kd.C k47 w A2_0 l2_0.length l2_0) (hc2_0 : l2_0.length ≤ c2_0) (h : tree_Text.f k a0 l1 l2_0 a3 = some r) :
    Calls Try.prog 29 #[.string a0, .slice A1 l1.length c1, .agg #[.slice A2_0 l2_0.length c2_0], .int .i64 a3] w fun e w' => e = .returned (.string r) ∧ Below w.heap.size w w' := by
  have hu9 := Try.underlying9
  have hu22 := Try.underlying22
  have hu23 := Try.underlying23
  have hu25 := Try.underlying25
  have hu47 := Try.underlying47
  have hu61 := Try.underlying61
  have hu70 := Try.underlying70
  have HR1 := Aside0.mk hr1
  have HR2 := Aside0.mk hr2_0
  have HB := Aside0.mk (Below.refl w.heap.size w)
  unfold tree_Text.f at h
  by_cases c7 : a3 < 0
  · rw [if_pos c7] at h
    obtain rfl := Option.some.inj h
    have c7b0 : decide (a3 < 0) = true := decide_eq_true c7
    clear c7 h
    go_enter Try.func29, Try.ntmps29
    go_wp2_with (first
    | ((with_reducible refine gate_dst (N := 4) rfl ?_); refine box_event ?hgg4 (N := 4) ?hdg4 (cs := #[.string a0]) (t := 9) ?hrg4 ?_; (case hdg4 => rfl); (case hgg4 => rfl); (case hrg4 => first | (go_simp; done) | (go_simp; rfl)); intro g4 hg w1 hbox hb; have n0_ := Aside0.mk (below_step HB.out hb); have n1_ := Aside0.mk hbox; have GEg4 := Aside0.mk (show w.heap.size ≤ g4 by rw [hg]; exact HB.out.size); clear HB; have HB := n0_; have BKg4 := n1_; clear n0_ n1_ hb hbox hg)
    | ((with_reducible refine gate_dst (N := 5) rfl ?_); refine box_event ?hgg5 (N := 5) ?hdg5 (cs := #[.slice A1 l1.length c1]) (t := 22) ?hrg5 ?_; (case hdg5 => rfl); (case hgg5 => rfl); (case hrg5 => first | (go_simp; done) | (go_simp; rfl)); intro g5 hg w2 hbox hb; have n0_ := Aside0.mk (below_step HB.out hb); have n1_ := Aside0.mk hbox; have n_BKg4 := Aside0.mk (blk_below BKg4.out hb); have GEg5 := Aside0.mk (show w.heap.size ≤ g5 by rw [hg]; exact HB.out.size); clear HB; have HB := n0_; have BKg5 := n1_; clear BKg4; have BKg4 := n_BKg4; clear n_BKg4; clear n0_ n1_ hb hbox hg)
    | ((with_reducible refine gate_dst (N := 6) rfl ?_); refine box_event ?hgg6 (N := 6) ?hdg6 (cs := #[.slice A2_0 l2_0.length c2_0]) (t := 25) ?hrg6 ?_; (case hdg6 => rfl); (case hgg6 => rfl); (case hrg6 => first | (go_simp; done) | (go_simp; rfl)); intro g6 hg w3 hbox hb; have n0_ := Aside0.mk (below_step HB.out hb); have n1_ := Aside0.mk hbox; have n_BKg4 := Aside0.mk (blk_below BKg4.out hb); have n_BKg5 := Aside0.mk (blk_below BKg5.out hb); have GEg6 := Aside0.mk (show w.heap.size ≤ g6 by rw [hg]; exact HB.out.size); clear HB; have HB := n0_; have BKg6 := n1_; clear BKg4; have BKg4 := n_BKg4; clear n_BKg4; clear BKg5; have BKg5 := n_BKg5; clear n_BKg5; clear n0_ n1_ hb hbox hg))
    go_ret
    exact ⟨rfl, HB.out⟩
  rw [if_neg c7] at h
  have c7b0 : decide (a3 < 0) = false := decide_eq_false c7
  by_cases c8 : a3 ≥ (l2_0.length : Int)
  · rw [if_pos c8] at h
    obtain rfl := Option.some.inj h
    have c8b0 : decide (a3 ≥ (l2_0.length : Int)) = true := decide_eq_true c8
    clear c7 c8 h
    go_enter Try.func29, Try.ntmps29
    go_upto_region 1 with (first
    | ((with_reducible refine gate_dst (N := 4) rfl ?_); refine box_event ?hgg4 (N := 4) ?hdg4 (cs := #[.string a0]) (t := 9) ?hrg4 ?_; (case hdg4 => rfl); (case hgg4 => rfl); (case hrg4 => first | (go_simp; done) | (go_simp; rfl)); intro g4 hg w1 hbox hb; have n0_ := Aside0.mk (below_step HB.out hb); have n1_ := Aside0.mk hbox; have GEg4 := Aside0.mk (show w.heap.size ≤ g4 by rw [hg]; exact HB.out.size); clear HB; have HB := n0_; have BKg4 := n1_; clear n0_ n1_ hb hbox hg)
    | ((with_reducible refine gate_dst (N := 5) rfl ?_); refine box_event ?hgg5 (N := 5) ?hdg5 (cs := #[.slice A1 l1.length c1]) (t := 22) ?hrg5 ?_; (case hdg5 => rfl); (case hgg5 => rfl); (case hrg5 => first | (go_simp; done) | (go_simp; rfl)); intro g5 hg w2 hbox hb; have n0_ := Aside0.mk (below_step HB.out hb); have n1_ := Aside0.mk hbox; have n_BKg4 := Aside0.mk (blk_below BKg4.out hb); have GEg5 := Aside0.mk (show w.heap.size ≤ g5 by rw [hg]; exact HB.out.size); clear HB; have HB := n0_; have BKg5 := n1_; clear BKg4; have BKg4 := n_BKg4; clear n_BKg4; clear n0_ n1_ hb hbox hg)
    | ((with_reducible refine gate_dst (N := 6) rfl ?_); refine box_event ?hgg6 (N := 6) ?hdg6 (cs := #[.slice A2_0 l2_0.length c2_0]) (t := 25) ?hrg6 ?_; (case hdg6 => rfl); (case hgg6 => rfl); (case hrg6 => first | (go_simp; done) | (go_simp; rfl)); intro g6 hg w3 hbox hb; have n0_ := Aside0.mk (below_step HB.out hb); have n1_ := Aside0.mk hbox; have n_BKg4 := Aside0.mk (blk_below BKg4.out hb); have n_BKg5 := Aside0.mk (blk_below BKg5.out hb); have GEg6 := Aside0.mk (show w.heap.size ≤ g6 by rw [hg]; exact HB.out.size); clear HB; have HB := n0_; have BKg6 := n1_; clear BKg4; have BKg4 := n_BKg4; clear n_BKg4; clear BKg5; have BKg5 := n_BKg5; clear n_BKg5; clear n0_ n1_ hb hbox hg))
    have hcz6 : w3.cell? ⟨g6, 0, none⟩ = some (.slice A2_0 l2_0.length c2_0) := (blk_cell BKg6.out 0).trans rfl
    go_wp2
    go_ret
    exact ⟨rfl, HB.out⟩
  rw [if_neg c8] at h
  have c8b0 : decide (a3 ≥ (l2_0.length : Int)) = false := decide_eq_false c8
  have hcond : l1.length < 4611686018427387904 ∧ (l1.length + 1) * (a0.size + 1) ≤ 140737488355328 := Classical.byContradiction fun hh => by rw [if_neg hh] at h; cases h
  rw [if_pos hcond] at h
  obtain ⟨hL, hT⟩ := hcond
  obtain rfl := Option.some.inj h
  have HL := Aside0.mk hL
  have HT := Aside0.mk hT
  have C7 := Aside0.mk c7
  have C8 := Aside0.mk c8
  clear h hL hT c7 c8 hr1 hc1 hr2_0 hc2_0
  refine (callsIn_wide (n := 3)).1 ?_
  refine callsIn_of_wp_marks Try.func29 rfl trivial ?_ rfl
  simp only [Try.ntmps29, List.size_toArray, List.length_cons, List.length_nil, Nat.reduceAdd, Nat.reduceSub, Array.replicate_succ, Array.replicate_zero, List.push_toArray, List.append_toArray, List.nil_append, List.cons_append]
  refine wpIn_wide.2 ?_
  go_upto_region 1 with (first
    | ((with_reducible refine gate_dst (N := 4) rfl ?_); refine box_event ?hgg4 (N := 4) ?hdg4 (cs := #[.string a0]) (t := 9) ?hrg4 ?_; (case hdg4 => rfl); (case hgg4 => rfl); (case hrg4 => first | (go_simp; done) | (go_simp; rfl)); intro g4 hg w1 hbox hb; have n0_ := Aside0.mk (below_step HB.out hb); have n1_ := Aside0.mk hbox; have GEg4 := Aside0.mk (show w.heap.size ≤ g4 by rw [hg]; exact HB.out.size); clear HB; have HB := n0_; have BKg4 := n1_; clear n0_ n1_ hb hbox hg)
    | ((with_reducible refine gate_dst (N := 5) rfl ?_); refine box_event ?hgg5 (N := 5) ?hdg5 (cs := #[.slice A1 l1.length c1]) (t := 22) ?hrg5 ?_; (case hdg5 => rfl); (case hgg5 => rfl); (case hrg5 => first | (go_simp; done) | (go_simp; rfl)); intro g5 hg w2 hbox hb; have n0_ := Aside0.mk (below_step HB.out hb); have n1_ := Aside0.mk hbox; have n_BKg4 := Aside0.mk (blk_below BKg4.out hb); have GEg5 := Aside0.mk (show w.heap.size ≤ g5 by rw [hg]; exact HB.out.size); clear HB; have HB := n0_; have BKg5 := n1_; clear BKg4; have BKg4 := n_BKg4; clear n_BKg4; clear n0_ n1_ hb hbox hg)
    | ((with_reducible refine gate_dst (N := 6) rfl ?_); refine box_event ?hgg6 (N := 6) ?hdg6 (cs := #[.slice A2_0 l2_0.length c2_0]) (t := 25) ?hrg6 ?_; (case hdg6 => rfl); (case hgg6 => rfl); (case hrg6 => first | (go_simp; done) | (go_simp; rfl)); intro g6 hg w3 hbox hb; have n0_ := Aside0.mk (below_step HB.out hb); have n1_ := Aside0.mk hbox; have n_BKg4 := Aside0.mk (blk_below BKg4.out hb); have n_BKg5 := Aside0.mk (blk_below BKg5.out hb); have GEg6 := Aside0.mk (show w.heap.size ≤ g6 by rw [hg]; exact HB.out.size); clear HB; have HB := n0_; have BKg6 := n1_; clear BKg4; have BKg4 := n_BKg4; clear n_BKg4; clear BKg5; have BKg5 := n_BKg5; clear n_BKg5; clear n0_ n1_ hb hbox hg))
  have hcz6 : w3.cell? ⟨g6, 0, none⟩ = some (.slice A2_0 l2_0.length c2_0) := (blk_cell BKg6.out 0).trans rfl
  go_wp2
  have b9 : (w3.alloc (.cells #[.slice none 0 0] 70)).heap[w3.heap.size]? = some (.cells #[.slice none 0 0] 70 (0, 0)) := blk_new w3 _
  have n4 := Aside0.mk (blk_alloc BKg4.out (.cells #[.slice none 0 0] 70))
  have n5 := Aside0.mk (blk_alloc BKg5.out (.cells #[.slice none 0 0] 70))
  have n6 := Aside0.mk (blk_alloc BKg6.out (.cells #[.slice none 0 0] 70))
  have nb := Aside0.mk (below_alloc HB.out (.cells #[.slice none 0 0] 70))
  have g9w := HB.out.size
  have e49 : g4 ≠ w3.heap.size := by have := blk_lt BKg4.out; omega
  have e59 : g5 ≠ w3.heap.size := by have := blk_lt BKg5.out; omega
  clear HB BKg4 BKg5 BKg6 hcz6
  generalize w3.alloc (.cells #[.slice none 0 0] 70) = w4 at b9 n4 n5 n6 nb ⊢
  generalize w3.heap.size = g9 at b9 g9w e49 e59 ⊢
  have HB := nb
  have BKg4 := n4
  have BKg5 := n5
  have BKg6 := n6
  have BK9 := Aside0.mk b9
  have G9W := Aside0.mk g9w
  have E49 := Aside0.mk e49
  have E59 := Aside0.mk e59
  clear nb n4 n5 n6 b9 g9w e49 e59
  have p211 : 0 ≤ a3 := by have := C7.out; omega
  have q211 : a3 < (l2_0.length : Int) := by have := C8.out; omega
  obtain ⟨ad1, e1, hx0, hx1, hx2, hx3⟩ := at_T47 (Kd.C_below HR2.out HB.out) a3 p211 q211
  cases e1
  replace p211 := eq_true p211
  replace q211 := eq_true q211
  refine start_n (n := 7) (S := fun w' => Below w4.heap.size w4 w') (ds := []) #[false, false, false, false, false, false, false] (by kernel_rfl) rfl rfl (below_drew (Below.refl _ _)) (fun hHeld => ?_)
  refine with_tabW tree_Text.tab4 tree_Text.bits4 (fun HT_ HW_ => ?_)
  generalize w4.drew = wa at hHeld ⊢
  refine pure_ (i := 1) (N := some 22) (v := ?_) (a' := ?_) #[false, true, false, false, false, false, false] rfl rfl (any_of HT_.out (by kernel_rfl)) (fun _ _ _ h => h) (Or.inl ⟨by rfl, ?_⟩) ?_ ?_
  rotate_left
  · intro w'
    go_simp
    with_reducible rfl
  rotate_left
  · simp only [Act.put, List.setIfInBounds_toArray, List.set_cons_zero, List.set_cons_succ, i64_w, i32_w]
    rfl
  refine pure_ (i := 3) (N := some 24) (v := ?_) (a' := ?_) #[false, true, false, true, false, false, false] rfl rfl (any_of HT_.out (by kernel_rfl)) (fun _ _ _ h => h) (Or.inl ⟨by rfl, ?_⟩) ?_ ?_
  rotate_left
  · intro w'
    go_simp
    with_reducible rfl
  rotate_left
  · simp only [Act.put, List.setIfInBounds_toArray, List.set_cons_zero, List.set_cons_succ, i64_w, i32_w]
    rfl
  refine take_ (i := 0) (N := some 21) (v := ?_) (a' := ?_) #[true, true, false, true, false, false, false] rfl rfl (take_ofW HT_.out HW_.out (by kernel_rfl)) (fun _ _ _ h => h) (Or.inl ⟨by rfl, ?_⟩) hHeld ?_ ?_
  rotate_left
  · intro w' hS
    have q5 : w'.cell? ⟨g5, 0, none⟩ = some (.slice A1 l1.length c1) := (blk_cell (blk_below BKg5.out hS) 0).trans rfl
    have q6 : w'.cell? ⟨g6, 0, none⟩ = some (.slice (some ad1) l2_0.length c2_0) := (blk_cell (blk_below BKg6.out hS) 0).trans rfl
    have y0 := (hS.cell (World.block_lt_of_cell? _ _ hx0)).trans hx0
    have y1 := (hS.cell (World.block_lt_of_cell? _ _ hx1)).trans hx1
    have y2 := (hS.cell (World.block_lt_of_cell? _ _ hx2)).trans hx2
    have y3 := (hS.cell (World.block_lt_of_cell? _ _ hx3)).trans hx3
    clear hS
    go_simp
    with_reducible rfl
  rotate_left
  · simp only [Act.put, List.setIfInBounds_toArray, List.set_cons_zero, List.set_cons_succ, i64_w, i32_w]
    rfl
  refine take_ (i := 2) (N := some 23) (v := ?_) (a' := ?_) #[true, true, true, true, false, false, false] rfl rfl (take_ofW HT_.out HW_.out (by kernel_rfl)) (fun _ _ _ h => h) (Or.inl ⟨by rfl, ?_⟩) hHeld ?_ ?_
  rotate_left
  · intro w' hS
    have q5 : w'.cell? ⟨g5, 0, none⟩ = some (.slice A1 l1.length c1) := (blk_cell (blk_below BKg5.out hS) 0).trans rfl
    have q6 : w'.cell? ⟨g6, 0, none⟩ = some (.slice (some ad1) l2_0.length c2_0) := (blk_cell (blk_below BKg6.out hS) 0).trans rfl
    have y0 := (hS.cell (World.block_lt_of_cell? _ _ hx0)).trans hx0
    have y1 := (hS.cell (World.block_lt_of_cell? _ _ hx1)).trans hx1
    have y2 := (hS.cell (World.block_lt_of_cell? _ _ hx2)).trans hx2
    have y3 := (hS.cell (World.block_lt_of_cell? _ _ hx3)).trans hx3
    clear hS
    go_simp
    with_reducible rfl
  rotate_left
  · simp only [Act.put, List.setIfInBounds_toArray, List.set_cons_zero, List.set_cons_succ, i64_w, i32_w]
    rfl
  refine pure_ (i := 4) (N := some 25) (v := ?_) (a' := ?_) #[true, true, true, true, true, false, false] rfl rfl (any_of HT_.out (by kernel_rfl)) (fun _ _ _ h => h) (Or.inl ⟨by rfl, ?_⟩) ?_ ?_
  rotate_left
  · intro w'
    go_simp
    with_reducible rfl
  rotate_left
  · simp only [Act.put, List.setIfInBounds_toArray, List.set_cons_zero, List.set_cons_succ, i64_w, i32_w]
    rfl
  refine take_ (i := 5) (N := some 26) (v := ?_) (a' := ?_) #[true, true, true, true, true, true, false] rfl rfl (take_ofW HT_.out HW_.out (by kernel_rfl)) (fun _ _ _ h => h) (Or.inl ⟨by rfl, ?_⟩) hHeld ?_ ?_
  rotate_left
  · intro w' hS
    have q5 : w'.cell? ⟨g5, 0, none⟩ = some (.slice A1 l1.length c1) := (blk_cell (blk_below BKg5.out hS) 0).trans rfl
    have q6 : w'.cell? ⟨g6, 0, none⟩ = some (.slice (some ad1) l2_0.length c2_0) := (blk_cell (blk_below BKg6.out hS) 0).trans rfl
    have y0 := (hS.cell (World.block_lt_of_cell? _ _ hx0)).trans hx0
    have y1 := (hS.cell (World.block_lt_of_cell? _ _ hx1)).trans hx1
    have y2 := (hS.cell (World.block_lt_of_cell? _ _ hx2)).trans hx2
    have y3 := (hS.cell (World.block_lt_of_cell? _ _ hx3)).trans hx3
    clear hS
    go_simp
    with_reducible rfl
  rotate_left
  · simp only [Act.put, List.setIfInBounds_toArray, List.set_cons_zero, List.set_cons_succ, i64_w, i32_w]
    rfl
  refine one_ (i := 6) (N := some 27) #[true, true, true, true, true, true, true] rfl rfl (one_of HT_.out (by kernel_rfl)) (by decide) (fun K hK => ?_)
  refine goes_ Try.func53 (by kernel_rfl) rfl #[.slice A1 l1.length c1, .agg #[.int .u8 (rd_T47 l2_0 a3).f0, .int .i64 (rd_T47 l2_0 a3).f1, .int .i64 (rd_T47 l2_0 a3).f2, .int .i64 (rd_T47 l2_0 a3).f3]] (by rfl) rfl rfl (by (try simp only [List.map_toArray, List.map_cons, List.map_nil]); first | done | rfl) ?_
  refine (tokens.calls A1 l1.length c1 _ _ _ _ _).mono ?_
  rintro e w5 ⟨b1, b2, rfl, k1, k2, gb1, gb2, hb4⟩
  refine ⟨_, rfl, ?_⟩
  have K1 := Aside0.mk k1
  have K2 := Aside0.mk k2
  have NB1 := Aside0.mk (Nat.le_trans hHeld.size gb1)
  have NB2 := Aside0.mk (Nat.le_trans hHeld.size gb2)
  clear k1 k2 gb1 gb2
  refine hK.out _ _ (below_step hHeld hb4) (fun hHeld => ?_)
  clear hb4
  clear hK K
  refine norm_ (a' := ?_) ?_ ?_
  rotate_left
  · show Act.put _ (some 27) _ = _
    simp only [Act.put, List.setIfInBounds_toArray, List.set_cons_zero, List.set_cons_succ, i64_w, i32_w]
    rfl
  refine done_ (done_of HT_.out (by kernel_rfl)) ?_
  rw [onlyN_normal]
  clear hx0 hx1 hx2 hx3 p211 q211
  have z4 := Aside0.mk (blk_below BKg4.out hHeld)
  have z5 := Aside0.mk (blk_below BKg5.out hHeld)
  have z9 := Aside0.mk (blk_below BK9.out hHeld)
  have zb := Aside0.mk (below_step HB.out hHeld)
  have N1 := Aside0.mk (show b1 ≠ g9 by have := NB1.out; have := blk_lt BK9.out; omega)
  have N2 := Aside0.mk (show b2 ≠ g9 by have := NB2.out; have := blk_lt BK9.out; omega)
  clear HB BKg4 BKg5 BKg6 BK9 hHeld
  go_wp2
  refine rf1 (gf := 62) (lb := #[.pointer (some ⟨b1, 0, none⟩), .pointer (some ⟨b2, 0, none⟩)]) (p := 28) (s := 10) rfl (enters_of Try.func62 (by kernel_rfl) rfl) (tokens_stops 2 (by omega) b1 b2 w w5 A1 c1 l1 _ _ _ _ HL.out HR1.out zb.out K1.out K2.out) KpT.trans (KpT_b zb.out.size (blk_lt K1.out) (blk_lt K2.out))
    (fun pre W => (∃ v, Boxed W g9 70 v ∧ W.ownsRow w.heap.size 5 1 v (textB a0 l1 (valsT pre)).length (nums .u8 (textB a0 l1 (valsT pre))) ∧ True) ∧ (W.heap[g4]? = some (.cells #[.string a0] 9 (0, 0)) ∧ W.heap[g5]? = some (.cells #[.slice A1 l1.length c1] 22 (0, 0)) ∧ W.heap[b1]? = w5.heap[b1]? ∧ W.heap[b2]? = w5.heap[b2]?) ∧ Below w.heap.size w W)
    (fun _ _ _ => False)
    (OwnFrom.and (Own.from (holdsRow_own w.heap.size g9 70 5 1 (fun pre => (textB a0 l1 (valsT pre)).length) (fun pre => nums .u8 (textB a0 l1 (valsT pre))) (fun _ _ => True)) _) (OwnFrom.and (fun _ _ _ _ h hg hr => ⟨blk_own h.1 hg (fun r e => (hr r e).2), blk_own h.2.1 hg (fun r e => (hr r e).2), (blk_own (h.2.2.1.trans K1.out) hg (fun r e => (hr r e).2)).trans K1.out.symm, (blk_own (h.2.2.2.trans K2.out) hg (fun r e => (hr r e).2)).trans K2.out.symm⟩) (ownFrom_below (Nat.le_refl _) zb.out.size)))
    (fun _ _ _ _ _ hs _ _ => hs)
    ⟨⟨_, z9.out, World.ownsRow_nil _ _ _ _, trivial⟩, ⟨z4.out, z5.out, rfl, rfl⟩, zb.out⟩ ?assign ?body ?done ?stop
  case assign =>
    intro lp x W K hK
    simp only [List.setIfInBounds_toArray, List.set_cons_zero, List.set_cons_succ] at hK ⊢
    gi_wp2
    exact hK
  case stop => exact fun _ _ _ _ _ _ h _ => h.elim
  case done =>
    rintro D ys W hD hys ⟨⟨v, hv, hR, _⟩, _, hB⟩ hK
    rw [hys] at hR
    obtain ⟨Av, cv, rfl⟩ := own_slice hR
    obtain ⟨bs, hbs⟩ : ∃ bs, textB a0 l1 (tokR l1 (mx (rd_T47 l2_0 a3).f1 0) (mn (rd_T47 l2_0 a3).f2 (l1.length : Int))) = bs := ⟨_, rfl⟩
    simp only [hbs] at hR hv ⊢
    have c9 : W.cell? ⟨g9, 0, none⟩ = some (.slice Av bs.length cv) := (blk_cell hv 0).trans rfl
    have hcv : (convert 70 9 (.slice Av bs.length cv)).run Try.prog W = .ok (.string (strOfNums bs)) W := own_string Try.underlying70 (by kernel_rfl) Try.underlying9 hR
    have HD := Aside0.mk hD
    have HW := Aside0.mk hB
    have HK := Aside0.mk hK
    clear hD hys hv hR hB hK
    go_wp2
    refine ⟨by simp, .inl ⟨_, _, rfl, run_takeDeferred HK.out, ?_⟩⟩
    refine ⟨_, results_tmp rfl _ _ _, ?_, HW.out.grown (grownBy_putObj' W D _) HW.out.size (fun k e => by cases e; exact Nat.le_trans zb.out.size HD.out)⟩
    rw [hbs]
    rfl
  case body =>
    rintro lp pre x W ⟨⟨v, hv, hR, _⟩, ⟨m4, m5, m1, m2⟩, hB⟩ hlt
    simp only [List.setIfInBounds_toArray, List.set_cons_zero, List.set_cons_succ]
    obtain ⟨adx, ex, hx0, hx1, hx2⟩ := at_T61 (Kd.C_below HR1.out hB) x.1 x.2.1 x.2.2.1
    cases ex
    have p1 := eq_true x.2.1
    have p2 := eq_true x.2.2.1
    gi_wp2
    refine start_in (by rfl) (n := 7) (S := fun w' => Below W.heap.size W w') (ds := []) #[false, false, false, false, false, false, false] (by kernel_rfl) rfl rfl (below_drew (Below.refl _ _)) (fun hHeld => ?_)
    refine with_tabW tree_Text.tab6 tree_Text.bits6 (fun HT_ HW_ => ?_)
    generalize W.drew = wb at hHeld ⊢
    refine pure_ (i := 2) (N := some 31) (v := ?_) (a' := ?_) #[false, false, true, false, false, false, false] rfl rfl (any_of HT_.out (by kernel_rfl)) (fun _ _ _ h => h) (Or.inl ⟨by rfl, ?_⟩) ?_ ?_
    rotate_left
    · intro w'
      go_simp
      with_reducible rfl
    rotate_left
    · simp only [Act.put, List.setIfInBounds_toArray, List.set_cons_zero, List.set_cons_succ, i64_w, i32_w]
      rfl
    refine take_ (i := 0) (N := some 29) (v := ?_) (a' := ?_) #[true, false, true, false, false, false, false] rfl rfl (take_ofW HT_.out HW_.out (by kernel_rfl)) (fun _ _ _ h => h) (Or.inl ⟨by rfl, ?_⟩) hHeld ?_ ?_
    rotate_left
    · intro w' hS
      have q4 : w'.cell? ⟨g4, 0, none⟩ = some (.string a0) := (blk_cell (blk_below m4 hS) 0).trans rfl
      have q5 : w'.cell? ⟨g5, 0, none⟩ = some (.slice (some adx) l1.length c1) := (blk_cell (blk_below m5 hS) 0).trans rfl
      have y0 := (hS.cell (World.block_lt_of_cell? _ _ hx0)).trans hx0
      have y1 := (hS.cell (World.block_lt_of_cell? _ _ hx1)).trans hx1
      have y2 := (hS.cell (World.block_lt_of_cell? _ _ hx2)).trans hx2
      clear hS
      go_simp
      with_reducible rfl
    rotate_left
    · simp only [Act.put, List.setIfInBounds_toArray, List.set_cons_zero, List.set_cons_succ, i64_w, i32_w]
      rfl
    refine take_ (i := 1) (N := some 30) (v := ?_) (a' := ?_) #[true, true, true, false, false, false, false] rfl rfl (take_ofW HT_.out HW_.out (by kernel_rfl)) (fun _ _ _ h => h) (Or.inl ⟨by rfl, ?_⟩) hHeld ?_ ?_
    rotate_left
    · intro w' hS
      have q4 : w'.cell? ⟨g4, 0, none⟩ = some (.string a0) := (blk_cell (blk_below m4 hS) 0).trans rfl
      have q5 : w'.cell? ⟨g5, 0, none⟩ = some (.slice (some adx) l1.length c1) := (blk_cell (blk_below m5 hS) 0).trans rfl
      have y0 := (hS.cell (World.block_lt_of_cell? _ _ hx0)).trans hx0
      have y1 := (hS.cell (World.block_lt_of_cell? _ _ hx1)).trans hx1
      have y2 := (hS.cell (World.block_lt_of_cell? _ _ hx2)).trans hx2
      clear hS
      go_simp
      with_reducible rfl
    rotate_left
    · simp only [Act.put, List.setIfInBounds_toArray, List.set_cons_zero, List.set_cons_succ, i64_w, i32_w]
      rfl
    refine pure_ (i := 3) (N := some 32) (v := ?_) (a' := ?_) #[true, true, true, true, false, false, false] rfl rfl (any_of HT_.out (by kernel_rfl)) (fun _ _ _ h => h) (Or.inl ⟨by rfl, ?_⟩) ?_ ?_
    rotate_left
    · intro w'
      go_simp
      with_reducible rfl
    rotate_left
    · simp only [Act.put, List.setIfInBounds_toArray, List.set_cons_zero, List.set_cons_succ, i64_w, i32_w]
      rfl
    refine take_ (i := 4) (N := some 33) (v := ?_) (a' := ?_) #[true, true, true, true, true, false, false] rfl rfl (take_ofW HT_.out HW_.out (by kernel_rfl)) (fun _ _ _ h => h) (Or.inl ⟨by rfl, ?_⟩) hHeld ?_ ?_
    rotate_left
    · intro w' hS
      have q4 : w'.cell? ⟨g4, 0, none⟩ = some (.string a0) := (blk_cell (blk_below m4 hS) 0).trans rfl
      have q5 : w'.cell? ⟨g5, 0, none⟩ = some (.slice (some adx) l1.length c1) := (blk_cell (blk_below m5 hS) 0).trans rfl
      have y0 := (hS.cell (World.block_lt_of_cell? _ _ hx0)).trans hx0
      have y1 := (hS.cell (World.block_lt_of_cell? _ _ hx1)).trans hx1
      have y2 := (hS.cell (World.block_lt_of_cell? _ _ hx2)).trans hx2
      clear hS
      go_simp
      with_reducible rfl
    rotate_left
    · simp only [Act.put, List.setIfInBounds_toArray, List.set_cons_zero, List.set_cons_succ, i64_w, i32_w]
      rfl
    refine one_ (i := 5) (N := some 34) #[true, true, true, true, true, true, false] rfl rfl (one_of HT_.out (by kernel_rfl)) (by decide) (fun K hK => ?_)
    refine goes_ Try.func48 (by kernel_rfl) rfl #[.string a0, .agg #[.int .u8 (rd_T61 l1 x.1).f0, .int .i64 (rd_T61 l1 x.1).f1, .int .i64 (rd_T61 l1 x.1).f2]] (by rfl) rfl rfl (by (try simp only [List.map_toArray, List.map_cons, List.map_nil]); first | done | rfl) ?_
    refine (tree_word.calls a0 _ _ _ (wordB a0 (rd_T61 l1 x.1)) _ (word_is a0 (rd_T61 l1 x.1))).mono ?_
    rintro e w6 ⟨rfl, hb6⟩
    refine ⟨_, rfl, ?_⟩
    refine hK.out _ _ (below_step hHeld hb6) (fun hHeld => ?_)
    clear hb6
    clear hK K
    refine norm_ (a' := ?_) ?_ ?_
    rotate_left
    · show Act.put _ (some 34) _ = _
      simp only [Act.put, List.setIfInBounds_toArray, List.set_cons_zero, List.set_cons_succ, i64_w, i32_w]
      rfl
    refine pure_ (i := 6) (N := some 11) (v := ?_) (a' := ?_) #[true, true, true, true, true, true, true] rfl rfl (any_of HT_.out (by kernel_rfl)) (fun _ _ _ h => h) (Or.inl ⟨by rfl, ?_⟩) ?_ ?_
    rotate_left
    · intro w'
      go_simp
      with_reducible rfl
    rotate_left
    · simp only [Act.put, List.setIfInBounds_toArray, List.set_cons_zero, List.set_cons_succ, i64_w, i32_w]
      rfl
    refine done_ (done_of HT_.out (by kernel_rfl)) ?_
    rw [noOut_normal]
    have HV := Aside0.mk (row_below hR hHeld)
    have HX := Aside0.mk (blk_below hv hHeld)
    have k4 := Aside0.mk (blk_below m4 hHeld)
    have k5 := Aside0.mk (blk_below m5 hHeld)
    have k1 := Aside0.mk (blk_below (m1.trans K1.out) hHeld)
    have k2 := Aside0.mk (blk_below (m2.trans K2.out) hHeld)
    have HW := Aside0.mk (below_step hB hHeld)
    have HKF := Aside0.mk (keeps_below (b := w5.heap.size) hHeld)
    have HBW := Aside0.mk (hHeld.mono hB.size)
    have M1 := Aside0.mk m1
    have M2 := Aside0.mk m2
    obtain ⟨Av, cv, rfl⟩ := own_slice hR
    have hlen := textB_len a0 l1 (valsT pre) []
    have hvl : (valsT pre).length = pre.length := by simp [valsT]
    have hws := wordB_size a0 (rd_T61 l1 x.1)
    have hlim : (textB a0 l1 (valsT pre)).length + (a0.size + 1) ≤ 140737488355328 := by
      have h1 : (valsT pre).length * (a0.size + 1) + (a0.size + 1) ≤ (l1.length + 1) * (a0.size + 1) := by
        rw [← Nat.succ_mul]
        exact Nat.mul_le_mul_right _ (by omega)
      have h2 : (textB a0 l1 (valsT pre)).length ≤ 0 + (valsT pre).length * (a0.size + 1) := hlen
      have := HT.out
      omega
    have hsn : valsT (pre ++ [x]) = valsT pre ++ [x.1] := by simp [valsT]
    have hst : textB a0 l1 (valsT (pre ++ [x])) = textStep a0 l1 (textB a0 l1 (valsT pre)) x.1 := by rw [hsn, textB_snoc]
    clear hR hv m4 m5 m1 m2 hB hHeld hlen hvl hx0 hx1 hx2 p1 p2
    obtain ⟨bs, hbs⟩ : ∃ bs, textB a0 l1 (valsT pre) = bs := ⟨_, rfl⟩
    obtain ⟨wd, hwd⟩ : ∃ wd, wordB a0 (rd_T61 l1 x.1) = wd := ⟨_, rfl⟩
    rw [hbs] at HV HX hlim hst
    unfold textStep at hst
    rw [hwd] at hst hws ⊢
    have q9 : w6.cell? ⟨g9, 0, none⟩ = some (.slice Av bs.length cv) := (blk_cell HX.out 0).trans rfl
    have f9 := blk_frozen HX.out 0
    have HST := Aside0.mk hst
    have HLM := Aside0.mk hlim
    clear hst hlim hbs hsn
    by_cases ew : wd.toList = []
    · have e1 : (wd.toList == ([] : List UInt8)) = true := beq_iff_eq.mpr ew
      have e2 : (wd.toList != ([] : List UInt8)) = false := bne_eq_false_iff_eq.mpr ew
      have nst := HST.out
      rw [if_pos ew] at nst
      clear HST ew
      have HST := Aside0.mk nst
      clear nst
      gi_wp2_with (gi_at_builtin; refine list_bridge_app (by exact ⟨_, _, rfl⟩) (by rfl) ?_)
      go_wp2_with (first
        | (at_builtin; refine print_append_str (w0 := w) w.heap.size rfl (.tmp 45) (.tmp 46) 70 9 5 rfl Try.underlying70 Try.underlying9 info5 (.slice Av bs.length cv) bs wd rfl rfl HV.out HW.out HW.out.size (by have := HLM.out; omega) ?_; intro v1 w7 ho hb1 hg; obtain ⟨b7s, hb7⟩ : ∃ b, bs ++ bytesOf wd = b := ⟨_, rfl⟩; have HB7 := Aside0.mk hb7; rw [hb7] at ho; clear hb7; have AP := Aside0.mk (app_step HX.out HV.out HW.out.size G9W.out ho hg); have h7 := blk_grown HX.out hg (not_row HX.out (by decide) HV.out); clear q9 f9; have q9 : w7.cell? ⟨g9, 0, none⟩ = some (.slice Av bs.length cv) := (blk_cell h7 0).trans rfl; have f9 := blk_frozen h7 0; obtain ⟨A7, c7, e7⟩ := own_slice ho; subst e7; clear ho hb1 hg h7))
      (rw [noOut_normal]; gi_wp2)
      obtain ⟨ap1, ap2, ap3, ap4, ap5⟩ := AP.out
      refine ⟨HKF.out.trans (ap4.from _), ⟨HBW.out.trans ap5, (ap3 b1 _ _ _ k1.out (by decide) N1.out).trans (M1.out.trans K1.out).symm, (ap3 b2 _ _ _ k2.out (by decide) N2.out).trans (M2.out.trans K2.out).symm⟩, ⟨_, ap1, ?_, trivial⟩, ⟨ap3 g4 _ _ _ k4.out (by decide) E49.out, ap3 g5 _ _ _ k5.out (by decide) E59.out, (ap3 b1 _ _ _ k1.out (by decide) N1.out).trans K1.out.symm, (ap3 b2 _ _ _ k2.out (by decide) N2.out).trans K2.out.symm⟩, HW.out.trans ap5⟩
      rw [HST.out, HB7.out]
      exact ap2
    · have e1 : (wd.toList == ([] : List UInt8)) = false := beq_eq_false_iff_ne.mpr ew
      have e2 : (wd.toList != ([] : List UInt8)) = true := bne_iff_ne.mpr ew
      have nst := HST.out
      rw [if_neg ew] at nst
      clear HST ew
      by_cases eb : bs = []
      · rw [if_pos eb] at nst
        have HST := Aside0.mk nst
        clear nst
        have hz' : (0 < bs.length) = False := eq_false (by rw [eb]; exact Nat.lt_irrefl 0)
        clear eb
        gi_wp2_with (gi_at_builtin; refine list_bridge_app (by exact ⟨_, _, rfl⟩) (by rfl) ?_)
        go_wp2_with (first
          | (at_builtin; refine print_append_str (w0 := w) w.heap.size rfl (.tmp 45) (.tmp 46) 70 9 5 rfl Try.underlying70 Try.underlying9 info5 (.slice Av bs.length cv) bs wd rfl rfl HV.out HW.out HW.out.size (by have := HLM.out; omega) ?_; intro v1 w7 ho hb1 hg; obtain ⟨b7s, hb7⟩ : ∃ b, bs ++ bytesOf wd = b := ⟨_, rfl⟩; have HB7 := Aside0.mk hb7; rw [hb7] at ho; clear hb7; have AP := Aside0.mk (app_step HX.out HV.out HW.out.size G9W.out ho hg); have h7 := blk_grown HX.out hg (not_row HX.out (by decide) HV.out); clear q9 f9; have q9 : w7.cell? ⟨g9, 0, none⟩ = some (.slice Av bs.length cv) := (blk_cell h7 0).trans rfl; have f9 := blk_frozen h7 0; obtain ⟨A7, c7, e7⟩ := own_slice ho; subst e7; clear ho hb1 hg h7))
        (rw [noOut_normal]; gi_wp2)
        obtain ⟨ap1, ap2, ap3, ap4, ap5⟩ := AP.out
        refine ⟨HKF.out.trans (ap4.from _), ⟨HBW.out.trans ap5, (ap3 b1 _ _ _ k1.out (by decide) N1.out).trans (M1.out.trans K1.out).symm, (ap3 b2 _ _ _ k2.out (by decide) N2.out).trans (M2.out.trans K2.out).symm⟩, ⟨_, ap1, ?_, trivial⟩, ⟨ap3 g4 _ _ _ k4.out (by decide) E49.out, ap3 g5 _ _ _ k5.out (by decide) E59.out, (ap3 b1 _ _ _ k1.out (by decide) N1.out).trans K1.out.symm, (ap3 b2 _ _ _ k2.out (by decide) N2.out).trans K2.out.symm⟩, HW.out.trans ap5⟩
        rw [HST.out, HB7.out]
        exact ap2
      · rw [if_neg eb] at nst
        have HST := Aside0.mk nst
        clear nst
        have hpos : 0 < bs.length := List.length_pos_iff.mpr eb
        clear eb
        gi_wp2_with (gi_at_builtin; refine list_bridge_app (by exact ⟨_, _, rfl⟩) (by rfl) ?_)
        go_wp2_with (first
          | (at_builtin; refine print_append_num (w0 := w) w.heap.size rfl (.tmp 42) (.tmp 43) 70 5 .u8 1 rfl Try.underlying70 info5 (by decide) (.slice Av bs.length cv) bs 32 rfl rfl HV.out HW.out HW.out.size (by have := HLM.out; omega) ?_; intro v1 w7 ho hb1 hg hat; obtain ⟨b2s, hb2⟩ : ∃ b, bs ++ [32] = b := ⟨_, rfl⟩; have HB2 := Aside0.mk hb2; have hbl := Aside0.mk (show b2s.length = bs.length + 1 by rw [← hb2, List.length_append, List.length_singleton]); rw [hb2] at ho; clear hb2; have AP := Aside0.mk (app_step HX.out HV.out HW.out.size G9W.out ho hg); have h7 := blk_grown HX.out hg (not_row HX.out (by decide) HV.out); clear q9 f9 hat; have q9 : w7.cell? ⟨g9, 0, none⟩ = some (.slice Av bs.length cv) := (blk_cell h7 0).trans rfl; have f9 := blk_frozen h7 0; obtain ⟨A7, c7, e7⟩ := own_slice ho; subst e7; clear ho hb1 hg h7))
        rw [noOut_normal]
        obtain ⟨ap1, ap2, ap3, ap4, ap5⟩ := AP.out
        have nst := HST.out
        rw [HB2.out] at nst
        have t4 := Aside0.mk (ap3 g4 _ _ _ k4.out (by decide) E49.out)
        have t5 := Aside0.mk (ap3 g5 _ _ _ k5.out (by decide) E59.out)
        have t1 := Aside0.mk (ap3 b1 _ _ _ k1.out (by decide) N1.out)
        have t2 := Aside0.mk (ap3 b2 _ _ _ k2.out (by decide) N2.out)
        have tw := Aside0.mk (HW.out.trans ap5)
        have tk := Aside0.mk (HKF.out.trans (ap4.from _))
        have tb := Aside0.mk (HBW.out.trans ap5)
        have tx := Aside0.mk ap1
        have tv := Aside0.mk ap2
        have tm := Aside0.mk (show b2s.length + a0.size ≤ 140737488355328 by have := HLM.out; have := hbl.out; omega)
        clear AP ap1 ap2 ap3 ap4 ap5 HST HV HX k4 k5 k1 k2 HW HKF HBW HLM q9 f9 hpos hbl HB2
        generalize w7.setCell ⟨g9, 0, none⟩ (.slice A7 b2s.length c7) = w8 at t4 t5 t1 t2 tw tk tb tx tv ⊢
        have HST := Aside0.mk nst
        have HLM := tm
        have HV := tv
        have HX := tx
        have k4 := t4
        have k5 := t5
        have k1 := t1
        have k2 := t2
        have HW := tw
        have HKF := tk
        have HBW := tb
        clear t4 t5 t1 t2 tw tk tb tx tv tm nst
        have q9 : w8.cell? ⟨g9, 0, none⟩ = some (.slice A7 b2s.length c7) := (blk_cell HX.out 0).trans rfl
        have f9 := blk_frozen HX.out 0
        gi_wp2_with (gi_at_builtin; refine list_bridge_app (by exact ⟨_, _, rfl⟩) (by rfl) ?_)
        go_wp2_with (first
          | (at_builtin; refine print_append_str (w0 := w) w.heap.size rfl (.tmp 45) (.tmp 46) 70 9 5 rfl Try.underlying70 Try.underlying9 info5 (.slice A7 b2s.length c7) b2s wd rfl rfl HV.out HW.out HW.out.size (by have := HLM.out; omega) ?_; intro v1 w9 ho hb1 hg; obtain ⟨b9s, hb7⟩ : ∃ b, b2s ++ bytesOf wd = b := ⟨_, rfl⟩; have HB7 := Aside0.mk hb7; rw [hb7] at ho; clear hb7; have AP := Aside0.mk (app_step HX.out HV.out HW.out.size G9W.out ho hg); have h7 := blk_grown HX.out hg (not_row HX.out (by decide) HV.out); clear q9 f9; have q9 : w9.cell? ⟨g9, 0, none⟩ = some (.slice A7 b2s.length c7) := (blk_cell h7 0).trans rfl; have f9 := blk_frozen h7 0; obtain ⟨A9, c9, e9⟩ := own_slice ho; subst e9; clear ho hb1 hg h7))
        (rw [noOut_normal]; gi_wp2)
        obtain ⟨ap1, ap2, ap3, ap4, ap5⟩ := AP.out
        refine ⟨HKF.out.trans (ap4.from _), ⟨HBW.out.trans ap5, (ap3 b1 _ _ _ k1.out (by decide) N1.out).trans (M1.out.trans K1.out).symm, (ap3 b2 _ _ _ k2.out (by decide) N2.out).trans (M2.out.trans K2.out).symm⟩, ⟨_, ap1, ?_, trivial⟩, ⟨ap3 g4 _ _ _ k4.out (by decide) E49.out, ap3 g5 _ _ _ k5.out (by decide) E59.out, (ap3 b1 _ _ _ k1.out (by decide) N1.out).trans K1.out.symm, (ap3 b2 _ _ _ k2.out (by decide) N2.out).trans K2.out.symm⟩, HW.out.trans ap5⟩
        rw [HST.out, HB7.out]
        exact ap2
end Go.Proofs.Ytodldpdnhcafpaa.F

namespace Go.Proofs.Ytodldpdnhcafpaa.Q
open Go.RowKit Go.Proofs.YtodldpdnhcafpaaW.PrintWords Go.Proofs.YtodldpdnhcafpaaW.PrintLast Go.Proofs.YtodldpdnhcafpaaW.PrintMore
open Go.Proofs.Ytodldpdnhcafpaa.F Go.Proofs.Ytodldpdnhcafpaa.K
set_option linter.unusedSimpArgs false
set_option linter.unusedVariables false
theorem tokR_in (l : List S61) {a b : Int} (ha : 0 ≤ a) (hb : b ≤ (l.length : Int)) : ∀ i ∈ tokR l a b, 0 ≤ i ∧ i < (l.length : Int) := by
  intro i hi
  unfold tokR at hi
  obtain ⟨h1, _⟩ := List.mem_filter.1 hi
  obtain ⟨j, hj, rfl⟩ := List.mem_map.1 h1
  have := List.mem_range.1 hj
  omega

def textSpec (t : ByteArray) (l : List S61) (ns : List S47) (n : Int) : ByteArray :=
  if n < 0 then ⟨#[]⟩ else if n ≥ (ns.length : Int) then ⟨#[]⟩ else strOfNums (textB t l (tokR l (mx (rd_T47 ns n).f1 0) (mn (rd_T47 ns n).f2 (l.length : Int))))

theorem Text_is (t : ByteArray) (l : List S61) (ns : List S47) (hl : (l.length + 1) * (t.size + 1) ≤ 140737488355328) (hl2 : l.length ≤ 8796093022208) (n : Int) : Ev (fun k => tree_Text.f k t l ns n) (textSpec t l ns n) := by
  unfold tree_Text.f textSpec
  by_cases h1 : n < 0
  · simp only [if_pos h1]; exact Ev.now _
  simp only [if_neg h1]
  by_cases h2 : n ≥ (ns.length : Int)
  · simp only [if_pos h2]; exact Ev.now _
  simp only [if_neg h2]
  rw [if_pos ⟨by omega, hl⟩]
  exact Ev.now _

end Go.Proofs.Ytodldpdnhcafpaa.Q
