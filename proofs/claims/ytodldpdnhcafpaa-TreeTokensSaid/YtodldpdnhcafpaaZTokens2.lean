/- Texts of the proof of one law (Tokens), part 2: functions printed as Lean functions with their walks, and what is proved of them. Conditions: those of each theorem. -/
import Derived.Test.YtodldpdnhcafpaaZTokens1
import Derived.RangeFuncNested
import Derived.RangeFuncBound
import Derived.RangeFuncCalls
import Derived.RangeFuncLeaves
import Derived.RangeFuncBox
import Derived.Shelf.Abstract
import Derived.Shelf.RegionOpen
import Derived.WalkKit
import Derived.OwnWalkIn
import Derived.TacticsInMore
import Derived.LoopNIn
import Derived.LoopIn
import Derived.OrdersIn
import Derived.BigQuiet
import Derived.WalkMore
namespace Go.Proofs.Ytodldpdnhcafpaa.K
open Go.RowKit Go.Proofs.YtodldpdnhcafpaaW.PrintWords Go.Proofs.YtodldpdnhcafpaaW.PrintLast Go.Proofs.YtodldpdnhcafpaaW.PrintMore
open Go.Proofs.Ytodldpdnhcafpaa.F
attribute [local go_sem] max2_int min2_int max_two min_two
set_option linter.unusedVariables false
set_option linter.unusedSimpArgs false

/-- One kid y of a node nd: is all good so far, and where the next one may begin. -/
def vstep (nd y : S47) (good : Bool) (a : Int) : Bool × Int :=
  if y.f1 = y.f2 then (good && decide (nd.f1 ≤ y.f1), a) else (good && decide (a ≤ y.f1) && decide (y.f2 ≤ nd.f2), mx a y.f2)
set_option maxHeartbeats 8000000 in
set_option maxRecDepth 100000 in
theorem valid1.calls (x : Int) (l : List S47) (A : Option Addr) (c : Nat) (nd : S47) (good : Bool) (a : Int) (gt gg gx ga : Nat) (w0 w : World)
    (ht : w.heap[gt]? = some (.cells #[.slice A l.length c] 25 (0, 0))) (hg : w.heap[gg]? = some (.cells #[.bool good] 4 (0, 0))) (hx : w.heap[gx]? = some (.cells #[.int .u8 nd.f0, .int .i64 nd.f1, .int .i64 nd.f2, .int .i64 nd.f3] 47 (0, 0))) (ha : w.heap[ga]? = some (.cells #[.int .i64 a] 3 (0, 0)))
    (hr : Kd.C k47 w A l.length l) (h0 : 0 ≤ x) (h1 : x < (l.length : Int)) (hW : Below w0.heap.size w0 w) (hgg : w0.heap.size ≤ gg) (hga : w0.heap.size ≤ ga) :
    Calls Try.prog 61 #[.int .i64 x, .pointer (some ⟨gt, 0, none⟩), .pointer (some ⟨gg, 0, none⟩), .pointer (some ⟨gx, 0, none⟩), .pointer (some ⟨ga, 0, none⟩)] w fun e w' => (∃ v, e = .returned v) ∧
      w'.heap[gg]? = some (.cells #[.bool (vstep nd (rd_T47 l x) good a).1] 4 (0, 0)) ∧ w'.heap[ga]? = some (.cells #[.int .i64 (vstep nd (rd_T47 l x) good a).2] 3 (0, 0)) ∧ (∀ k, k < w.heap.size → k ≠ gg → k ≠ ga → w'.heap[k]? = w.heap[k]?) ∧ Below w0.heap.size w0 w' := by
  obtain ⟨ad, e2, hx0, hx1, hx2, hx3⟩ := at_T47 hr x h0 h1
  subst e2
  obtain ⟨y, hy⟩ : ∃ y, rd_T47 l x = y := ⟨_, rfl⟩
  rw [hy] at hx0 hx1 hx2 hx3 ⊢
  clear hy hr
  have ct : w.cell? ⟨gt, 0, none⟩ = some (.slice (some ad) l.length c) := (blk_cell ht 0).trans rfl
  have h0b : decide (0 ≤ x) = true := decide_eq_true h0
  have h1b : decide (x < (l.length : Int)) = true := decide_eq_true h1
  replace h0 := eq_true h0
  replace h1 := eq_true h1
  have ngg := blk_ne hg ha (by decide)
  have HT := Aside0.mk ht
  have HG := Aside0.mk hg
  have HX := Aside0.mk hx
  have HA := Aside0.mk ha
  have HW := Aside0.mk hW
  have GG := Aside0.mk hgg
  have GA := Aside0.mk hga
  have NGA := Aside0.mk ngg
  clear ht hg hx ha hW hgg hga ngg
  have LB0 : Below w.heap.size w (w.alloc (.cells #[.int .u8 y.f0, .int .i64 y.f1, .int .i64 y.f2, .int .i64 y.f3] 47)) := below_alloc (Below.refl _ _) _
  have LG := Aside0.mk (blk_below HG.out LB0)
  have LX := Aside0.mk (blk_below HX.out LB0)
  have LA := Aside0.mk (blk_below HA.out LB0)
  have L6 := Aside0.mk (heap_alloc_new w (.cells #[.int .u8 y.f0, .int .i64 y.f1, .int .i64 y.f2, .int .i64 y.f3] 47))
  have LW := Aside0.mk (show Below w0.heap.size w0 (w.alloc (.cells #[.int .u8 y.f0, .int .i64 y.f1, .int .i64 y.f2, .int .i64 y.f3] 47)) from below_step HW.out LB0)
  have LB := Aside0.mk (show ∀ k, k < w.heap.size → (w.alloc (.cells #[.int .u8 y.f0, .int .i64 y.f1, .int .i64 y.f2, .int .i64 y.f3] 47)).heap[k]? = w.heap[k]? from fun k hk => LB0.block k hk)
  have E2 := Aside0.mk (show gg ≠ w.heap.size from Nat.ne_of_lt (blk_lt HG.out))
  clear LB0
  have cg : (w.alloc (.cells #[.int .u8 y.f0, .int .i64 y.f1, .int .i64 y.f2, .int .i64 y.f3] 47)).cell? ⟨gg, 0, none⟩ = some (.bool good) := (blk_cell LG.out 0).trans rfl
  have fg := blk_frozen LG.out 0
  have cx1 : (w.alloc (.cells #[.int .u8 y.f0, .int .i64 y.f1, .int .i64 y.f2, .int .i64 y.f3] 47)).cell? ⟨gx, 1, none⟩ = some (.int .i64 nd.f1) := (blk_cell LX.out 1).trans rfl
  have cx2 : (w.alloc (.cells #[.int .u8 y.f0, .int .i64 y.f1, .int .i64 y.f2, .int .i64 y.f3] 47)).cell? ⟨gx, 2, none⟩ = some (.int .i64 nd.f2) := (blk_cell LX.out 2).trans rfl
  have ca : (w.alloc (.cells #[.int .u8 y.f0, .int .i64 y.f1, .int .i64 y.f2, .int .i64 y.f3] 47)).cell? ⟨ga, 0, none⟩ = some (.int .i64 a) := (blk_cell LA.out 0).trans rfl
  have fa := blk_frozen LA.out 0
  by_cases k1 : y.f1 = y.f2
  · have k1b : (y.f1 == y.f2) = true := beq_iff_eq.mpr k1
    have hv : vstep nd y good a = (good && decide (nd.f1 ≤ y.f1), a) := by unfold vstep; rw [if_pos k1]
    rw [hv]
    clear hv k1
    cases good with
    | false =>
      rw [Bool.false_and]
      go_enter Try.func61, Try.ntmps61
      go_wp2
      first | go_end0 | ((try simp only [Exit.inBlock, Exit.then]); refine bodyPost_ret (results_none rfl _ _ _) rfl ?_)
      exact ⟨⟨_, rfl⟩, blk_put LG.out 0 _ rfl, blk_far (p := ⟨gg, 0, none⟩) LA.out NGA.out.symm _, fun k hk h1 h2 => (Below.heap_setCell _ _ _ _ h1).trans (LB.out k hk), below_set LW.out GG.out⟩
    | true =>
      rw [Bool.true_and]
      by_cases k2 : nd.f1 ≤ y.f1
      · have k2b : decide (nd.f1 ≤ y.f1) = true := decide_eq_true k2
        rw [k2b]
        clear k2
        go_enter Try.func61, Try.ntmps61
        go_wp2
        first | go_end0 | ((try simp only [Exit.inBlock, Exit.then]); refine bodyPost_ret (results_none rfl _ _ _) rfl ?_)
        exact ⟨⟨_, rfl⟩, blk_put LG.out 0 _ rfl, blk_far (p := ⟨gg, 0, none⟩) LA.out NGA.out.symm _, fun k hk h1 h2 => (Below.heap_setCell _ _ _ _ h1).trans (LB.out k hk), below_set LW.out GG.out⟩
      · have k2b : decide (nd.f1 ≤ y.f1) = false := decide_eq_false k2
        rw [k2b]
        clear k2
        go_enter Try.func61, Try.ntmps61
        go_wp2
        first | go_end0 | ((try simp only [Exit.inBlock, Exit.then]); refine bodyPost_ret (results_none rfl _ _ _) rfl ?_)
        exact ⟨⟨_, rfl⟩, blk_put LG.out 0 _ rfl, blk_far (p := ⟨gg, 0, none⟩) LA.out NGA.out.symm _, fun k hk h1 h2 => (Below.heap_setCell _ _ _ _ h1).trans (LB.out k hk), below_set LW.out GG.out⟩
  · have k1b : (y.f1 == y.f2) = false := beq_eq_false_iff_ne.mpr k1
    have hv : vstep nd y good a = (good && decide (a ≤ y.f1) && decide (y.f2 ≤ nd.f2), mx a y.f2) := by unfold vstep; rw [if_neg k1]
    rw [hv]
    clear hv k1
    by_cases k5 : a < y.f2
    · have k5b : decide (a < y.f2) = true := decide_eq_true k5
      have hm : mx a y.f2 = y.f2 := by unfold mx; rw [if_pos k5]
      rw [hm]
      clear hm
      replace k5 := eq_true k5
      cases good with
      | false =>
        rw [Bool.false_and, Bool.false_and]
        have MA := Aside0.mk (show ((w.alloc (.cells #[.int .u8 y.f0, .int .i64 y.f1, .int .i64 y.f2, .int .i64 y.f3] 47)).setCell ⟨gg, 0, none⟩ (.bool false)).heap[ga]? = _ from blk_far (p := ⟨gg, 0, none⟩) LA.out NGA.out.symm _)
        have M6 := Aside0.mk (show ((w.alloc (.cells #[.int .u8 y.f0, .int .i64 y.f1, .int .i64 y.f2, .int .i64 y.f3] 47)).setCell ⟨gg, 0, none⟩ (.bool false)).heap[w.heap.size]? = _ from blk_far (p := ⟨gg, 0, none⟩) L6.out E2.out.symm _)
        have MG := Aside0.mk (show ((w.alloc (.cells #[.int .u8 y.f0, .int .i64 y.f1, .int .i64 y.f2, .int .i64 y.f3] 47)).setCell ⟨gg, 0, none⟩ (.bool false)).heap[gg]? = some (.cells #[.bool false] 4 (0, 0)) from blk_put LG.out 0 _ rfl)
        have ca2 : ((w.alloc (.cells #[.int .u8 y.f0, .int .i64 y.f1, .int .i64 y.f2, .int .i64 y.f3] 47)).setCell ⟨gg, 0, none⟩ (.bool false)).cell? ⟨ga, 0, none⟩ = some (.int .i64 a) := (blk_cell MA.out 0).trans rfl
        have fa2 := blk_frozen MA.out 0
        have c62 : ((w.alloc (.cells #[.int .u8 y.f0, .int .i64 y.f1, .int .i64 y.f2, .int .i64 y.f3] 47)).setCell ⟨gg, 0, none⟩ (.bool false)).cell? ⟨w.heap.size, 2, none⟩ = some (.int .i64 y.f2) := (blk_cell M6.out 2).trans rfl
        go_enter Try.func61, Try.ntmps61
        go_wp2
        first | go_end0 | ((try simp only [Exit.inBlock, Exit.then]); refine bodyPost_ret (results_none rfl _ _ _) rfl ?_)
        exact ⟨⟨_, rfl⟩, blk_far (p := ⟨ga, 0, none⟩) MG.out NGA.out _, blk_put MA.out 0 _ rfl, fun k hk h1 h2 => (Below.heap_setCell _ _ _ _ h2).trans ((Below.heap_setCell _ _ _ _ h1).trans (LB.out k hk)), below_set (below_set LW.out GG.out) GA.out⟩
      | true =>
        rw [Bool.true_and]
        by_cases k2 : a ≤ y.f1
        · have k2b : decide (a ≤ y.f1) = true := decide_eq_true k2
          rw [k2b, Bool.true_and]
          clear k2
          by_cases k3 : y.f2 ≤ nd.f2
          · have k3b : decide (y.f2 ≤ nd.f2) = true := decide_eq_true k3
            rw [k3b]
            clear k3
            have MA := Aside0.mk (show ((w.alloc (.cells #[.int .u8 y.f0, .int .i64 y.f1, .int .i64 y.f2, .int .i64 y.f3] 47)).setCell ⟨gg, 0, none⟩ (.bool true)).heap[ga]? = _ from blk_far (p := ⟨gg, 0, none⟩) LA.out NGA.out.symm _)
            have M6 := Aside0.mk (show ((w.alloc (.cells #[.int .u8 y.f0, .int .i64 y.f1, .int .i64 y.f2, .int .i64 y.f3] 47)).setCell ⟨gg, 0, none⟩ (.bool true)).heap[w.heap.size]? = _ from blk_far (p := ⟨gg, 0, none⟩) L6.out E2.out.symm _)
            have MG := Aside0.mk (show ((w.alloc (.cells #[.int .u8 y.f0, .int .i64 y.f1, .int .i64 y.f2, .int .i64 y.f3] 47)).setCell ⟨gg, 0, none⟩ (.bool true)).heap[gg]? = some (.cells #[.bool true] 4 (0, 0)) from blk_put LG.out 0 _ rfl)
            have ca2 : ((w.alloc (.cells #[.int .u8 y.f0, .int .i64 y.f1, .int .i64 y.f2, .int .i64 y.f3] 47)).setCell ⟨gg, 0, none⟩ (.bool true)).cell? ⟨ga, 0, none⟩ = some (.int .i64 a) := (blk_cell MA.out 0).trans rfl
            have fa2 := blk_frozen MA.out 0
            have c62 : ((w.alloc (.cells #[.int .u8 y.f0, .int .i64 y.f1, .int .i64 y.f2, .int .i64 y.f3] 47)).setCell ⟨gg, 0, none⟩ (.bool true)).cell? ⟨w.heap.size, 2, none⟩ = some (.int .i64 y.f2) := (blk_cell M6.out 2).trans rfl
            go_enter Try.func61, Try.ntmps61
            go_wp2
            first | go_end0 | ((try simp only [Exit.inBlock, Exit.then]); refine bodyPost_ret (results_none rfl _ _ _) rfl ?_)
            exact ⟨⟨_, rfl⟩, blk_far (p := ⟨ga, 0, none⟩) MG.out NGA.out _, blk_put MA.out 0 _ rfl, fun k hk h1 h2 => (Below.heap_setCell _ _ _ _ h2).trans ((Below.heap_setCell _ _ _ _ h1).trans (LB.out k hk)), below_set (below_set LW.out GG.out) GA.out⟩
          · have k3b : decide (y.f2 ≤ nd.f2) = false := decide_eq_false k3
            rw [k3b]
            clear k3
            have MA := Aside0.mk (show ((w.alloc (.cells #[.int .u8 y.f0, .int .i64 y.f1, .int .i64 y.f2, .int .i64 y.f3] 47)).setCell ⟨gg, 0, none⟩ (.bool false)).heap[ga]? = _ from blk_far (p := ⟨gg, 0, none⟩) LA.out NGA.out.symm _)
            have M6 := Aside0.mk (show ((w.alloc (.cells #[.int .u8 y.f0, .int .i64 y.f1, .int .i64 y.f2, .int .i64 y.f3] 47)).setCell ⟨gg, 0, none⟩ (.bool false)).heap[w.heap.size]? = _ from blk_far (p := ⟨gg, 0, none⟩) L6.out E2.out.symm _)
            have MG := Aside0.mk (show ((w.alloc (.cells #[.int .u8 y.f0, .int .i64 y.f1, .int .i64 y.f2, .int .i64 y.f3] 47)).setCell ⟨gg, 0, none⟩ (.bool false)).heap[gg]? = some (.cells #[.bool false] 4 (0, 0)) from blk_put LG.out 0 _ rfl)
            have ca2 : ((w.alloc (.cells #[.int .u8 y.f0, .int .i64 y.f1, .int .i64 y.f2, .int .i64 y.f3] 47)).setCell ⟨gg, 0, none⟩ (.bool false)).cell? ⟨ga, 0, none⟩ = some (.int .i64 a) := (blk_cell MA.out 0).trans rfl
            have fa2 := blk_frozen MA.out 0
            have c62 : ((w.alloc (.cells #[.int .u8 y.f0, .int .i64 y.f1, .int .i64 y.f2, .int .i64 y.f3] 47)).setCell ⟨gg, 0, none⟩ (.bool false)).cell? ⟨w.heap.size, 2, none⟩ = some (.int .i64 y.f2) := (blk_cell M6.out 2).trans rfl
            go_enter Try.func61, Try.ntmps61
            go_wp2
            first | go_end0 | ((try simp only [Exit.inBlock, Exit.then]); refine bodyPost_ret (results_none rfl _ _ _) rfl ?_)
            exact ⟨⟨_, rfl⟩, blk_far (p := ⟨ga, 0, none⟩) MG.out NGA.out _, blk_put MA.out 0 _ rfl, fun k hk h1 h2 => (Below.heap_setCell _ _ _ _ h2).trans ((Below.heap_setCell _ _ _ _ h1).trans (LB.out k hk)), below_set (below_set LW.out GG.out) GA.out⟩
        · have k2b : decide (a ≤ y.f1) = false := decide_eq_false k2
          rw [k2b, Bool.false_and]
          clear k2
          have MA := Aside0.mk (show ((w.alloc (.cells #[.int .u8 y.f0, .int .i64 y.f1, .int .i64 y.f2, .int .i64 y.f3] 47)).setCell ⟨gg, 0, none⟩ (.bool false)).heap[ga]? = _ from blk_far (p := ⟨gg, 0, none⟩) LA.out NGA.out.symm _)
          have M6 := Aside0.mk (show ((w.alloc (.cells #[.int .u8 y.f0, .int .i64 y.f1, .int .i64 y.f2, .int .i64 y.f3] 47)).setCell ⟨gg, 0, none⟩ (.bool false)).heap[w.heap.size]? = _ from blk_far (p := ⟨gg, 0, none⟩) L6.out E2.out.symm _)
          have MG := Aside0.mk (show ((w.alloc (.cells #[.int .u8 y.f0, .int .i64 y.f1, .int .i64 y.f2, .int .i64 y.f3] 47)).setCell ⟨gg, 0, none⟩ (.bool false)).heap[gg]? = some (.cells #[.bool false] 4 (0, 0)) from blk_put LG.out 0 _ rfl)
          have ca2 : ((w.alloc (.cells #[.int .u8 y.f0, .int .i64 y.f1, .int .i64 y.f2, .int .i64 y.f3] 47)).setCell ⟨gg, 0, none⟩ (.bool false)).cell? ⟨ga, 0, none⟩ = some (.int .i64 a) := (blk_cell MA.out 0).trans rfl
          have fa2 := blk_frozen MA.out 0
          have c62 : ((w.alloc (.cells #[.int .u8 y.f0, .int .i64 y.f1, .int .i64 y.f2, .int .i64 y.f3] 47)).setCell ⟨gg, 0, none⟩ (.bool false)).cell? ⟨w.heap.size, 2, none⟩ = some (.int .i64 y.f2) := (blk_cell M6.out 2).trans rfl
          go_enter Try.func61, Try.ntmps61
          go_wp2
          first | go_end0 | ((try simp only [Exit.inBlock, Exit.then]); refine bodyPost_ret (results_none rfl _ _ _) rfl ?_)
          exact ⟨⟨_, rfl⟩, blk_far (p := ⟨ga, 0, none⟩) MG.out NGA.out _, blk_put MA.out 0 _ rfl, fun k hk h1 h2 => (Below.heap_setCell _ _ _ _ h2).trans ((Below.heap_setCell _ _ _ _ h1).trans (LB.out k hk)), below_set (below_set LW.out GG.out) GA.out⟩
    · have k5b : decide (a < y.f2) = false := decide_eq_false k5
      have hm : mx a y.f2 = a := by unfold mx; rw [if_neg k5]
      rw [hm]
      clear hm
      replace k5 := eq_false k5
      cases good with
      | false =>
        rw [Bool.false_and, Bool.false_and]
        have MA := Aside0.mk (show ((w.alloc (.cells #[.int .u8 y.f0, .int .i64 y.f1, .int .i64 y.f2, .int .i64 y.f3] 47)).setCell ⟨gg, 0, none⟩ (.bool false)).heap[ga]? = _ from blk_far (p := ⟨gg, 0, none⟩) LA.out NGA.out.symm _)
        have M6 := Aside0.mk (show ((w.alloc (.cells #[.int .u8 y.f0, .int .i64 y.f1, .int .i64 y.f2, .int .i64 y.f3] 47)).setCell ⟨gg, 0, none⟩ (.bool false)).heap[w.heap.size]? = _ from blk_far (p := ⟨gg, 0, none⟩) L6.out E2.out.symm _)
        have MG := Aside0.mk (show ((w.alloc (.cells #[.int .u8 y.f0, .int .i64 y.f1, .int .i64 y.f2, .int .i64 y.f3] 47)).setCell ⟨gg, 0, none⟩ (.bool false)).heap[gg]? = some (.cells #[.bool false] 4 (0, 0)) from blk_put LG.out 0 _ rfl)
        have ca2 : ((w.alloc (.cells #[.int .u8 y.f0, .int .i64 y.f1, .int .i64 y.f2, .int .i64 y.f3] 47)).setCell ⟨gg, 0, none⟩ (.bool false)).cell? ⟨ga, 0, none⟩ = some (.int .i64 a) := (blk_cell MA.out 0).trans rfl
        have fa2 := blk_frozen MA.out 0
        have c62 : ((w.alloc (.cells #[.int .u8 y.f0, .int .i64 y.f1, .int .i64 y.f2, .int .i64 y.f3] 47)).setCell ⟨gg, 0, none⟩ (.bool false)).cell? ⟨w.heap.size, 2, none⟩ = some (.int .i64 y.f2) := (blk_cell M6.out 2).trans rfl
        go_enter Try.func61, Try.ntmps61
        go_wp2
        first | go_end0 | ((try simp only [Exit.inBlock, Exit.then]); refine bodyPost_ret (results_none rfl _ _ _) rfl ?_)
        exact ⟨⟨_, rfl⟩, blk_far (p := ⟨ga, 0, none⟩) MG.out NGA.out _, blk_put MA.out 0 _ rfl, fun k hk h1 h2 => (Below.heap_setCell _ _ _ _ h2).trans ((Below.heap_setCell _ _ _ _ h1).trans (LB.out k hk)), below_set (below_set LW.out GG.out) GA.out⟩
      | true =>
        rw [Bool.true_and]
        by_cases k2 : a ≤ y.f1
        · have k2b : decide (a ≤ y.f1) = true := decide_eq_true k2
          rw [k2b, Bool.true_and]
          clear k2
          by_cases k3 : y.f2 ≤ nd.f2
          · have k3b : decide (y.f2 ≤ nd.f2) = true := decide_eq_true k3
            rw [k3b]
            clear k3
            have MA := Aside0.mk (show ((w.alloc (.cells #[.int .u8 y.f0, .int .i64 y.f1, .int .i64 y.f2, .int .i64 y.f3] 47)).setCell ⟨gg, 0, none⟩ (.bool true)).heap[ga]? = _ from blk_far (p := ⟨gg, 0, none⟩) LA.out NGA.out.symm _)
            have M6 := Aside0.mk (show ((w.alloc (.cells #[.int .u8 y.f0, .int .i64 y.f1, .int .i64 y.f2, .int .i64 y.f3] 47)).setCell ⟨gg, 0, none⟩ (.bool true)).heap[w.heap.size]? = _ from blk_far (p := ⟨gg, 0, none⟩) L6.out E2.out.symm _)
            have MG := Aside0.mk (show ((w.alloc (.cells #[.int .u8 y.f0, .int .i64 y.f1, .int .i64 y.f2, .int .i64 y.f3] 47)).setCell ⟨gg, 0, none⟩ (.bool true)).heap[gg]? = some (.cells #[.bool true] 4 (0, 0)) from blk_put LG.out 0 _ rfl)
            have ca2 : ((w.alloc (.cells #[.int .u8 y.f0, .int .i64 y.f1, .int .i64 y.f2, .int .i64 y.f3] 47)).setCell ⟨gg, 0, none⟩ (.bool true)).cell? ⟨ga, 0, none⟩ = some (.int .i64 a) := (blk_cell MA.out 0).trans rfl
            have fa2 := blk_frozen MA.out 0
            have c62 : ((w.alloc (.cells #[.int .u8 y.f0, .int .i64 y.f1, .int .i64 y.f2, .int .i64 y.f3] 47)).setCell ⟨gg, 0, none⟩ (.bool true)).cell? ⟨w.heap.size, 2, none⟩ = some (.int .i64 y.f2) := (blk_cell M6.out 2).trans rfl
            go_enter Try.func61, Try.ntmps61
            go_wp2
            first | go_end0 | ((try simp only [Exit.inBlock, Exit.then]); refine bodyPost_ret (results_none rfl _ _ _) rfl ?_)
            exact ⟨⟨_, rfl⟩, blk_far (p := ⟨ga, 0, none⟩) MG.out NGA.out _, blk_put MA.out 0 _ rfl, fun k hk h1 h2 => (Below.heap_setCell _ _ _ _ h2).trans ((Below.heap_setCell _ _ _ _ h1).trans (LB.out k hk)), below_set (below_set LW.out GG.out) GA.out⟩
          · have k3b : decide (y.f2 ≤ nd.f2) = false := decide_eq_false k3
            rw [k3b]
            clear k3
            have MA := Aside0.mk (show ((w.alloc (.cells #[.int .u8 y.f0, .int .i64 y.f1, .int .i64 y.f2, .int .i64 y.f3] 47)).setCell ⟨gg, 0, none⟩ (.bool false)).heap[ga]? = _ from blk_far (p := ⟨gg, 0, none⟩) LA.out NGA.out.symm _)
            have M6 := Aside0.mk (show ((w.alloc (.cells #[.int .u8 y.f0, .int .i64 y.f1, .int .i64 y.f2, .int .i64 y.f3] 47)).setCell ⟨gg, 0, none⟩ (.bool false)).heap[w.heap.size]? = _ from blk_far (p := ⟨gg, 0, none⟩) L6.out E2.out.symm _)
            have MG := Aside0.mk (show ((w.alloc (.cells #[.int .u8 y.f0, .int .i64 y.f1, .int .i64 y.f2, .int .i64 y.f3] 47)).setCell ⟨gg, 0, none⟩ (.bool false)).heap[gg]? = some (.cells #[.bool false] 4 (0, 0)) from blk_put LG.out 0 _ rfl)
            have ca2 : ((w.alloc (.cells #[.int .u8 y.f0, .int .i64 y.f1, .int .i64 y.f2, .int .i64 y.f3] 47)).setCell ⟨gg, 0, none⟩ (.bool false)).cell? ⟨ga, 0, none⟩ = some (.int .i64 a) := (blk_cell MA.out 0).trans rfl
            have fa2 := blk_frozen MA.out 0
            have c62 : ((w.alloc (.cells #[.int .u8 y.f0, .int .i64 y.f1, .int .i64 y.f2, .int .i64 y.f3] 47)).setCell ⟨gg, 0, none⟩ (.bool false)).cell? ⟨w.heap.size, 2, none⟩ = some (.int .i64 y.f2) := (blk_cell M6.out 2).trans rfl
            go_enter Try.func61, Try.ntmps61
            go_wp2
            first | go_end0 | ((try simp only [Exit.inBlock, Exit.then]); refine bodyPost_ret (results_none rfl _ _ _) rfl ?_)
            exact ⟨⟨_, rfl⟩, blk_far (p := ⟨ga, 0, none⟩) MG.out NGA.out _, blk_put MA.out 0 _ rfl, fun k hk h1 h2 => (Below.heap_setCell _ _ _ _ h2).trans ((Below.heap_setCell _ _ _ _ h1).trans (LB.out k hk)), below_set (below_set LW.out GG.out) GA.out⟩
        · have k2b : decide (a ≤ y.f1) = false := decide_eq_false k2
          rw [k2b, Bool.false_and]
          clear k2
          have MA := Aside0.mk (show ((w.alloc (.cells #[.int .u8 y.f0, .int .i64 y.f1, .int .i64 y.f2, .int .i64 y.f3] 47)).setCell ⟨gg, 0, none⟩ (.bool false)).heap[ga]? = _ from blk_far (p := ⟨gg, 0, none⟩) LA.out NGA.out.symm _)
          have M6 := Aside0.mk (show ((w.alloc (.cells #[.int .u8 y.f0, .int .i64 y.f1, .int .i64 y.f2, .int .i64 y.f3] 47)).setCell ⟨gg, 0, none⟩ (.bool false)).heap[w.heap.size]? = _ from blk_far (p := ⟨gg, 0, none⟩) L6.out E2.out.symm _)
          have MG := Aside0.mk (show ((w.alloc (.cells #[.int .u8 y.f0, .int .i64 y.f1, .int .i64 y.f2, .int .i64 y.f3] 47)).setCell ⟨gg, 0, none⟩ (.bool false)).heap[gg]? = some (.cells #[.bool false] 4 (0, 0)) from blk_put LG.out 0 _ rfl)
          have ca2 : ((w.alloc (.cells #[.int .u8 y.f0, .int .i64 y.f1, .int .i64 y.f2, .int .i64 y.f3] 47)).setCell ⟨gg, 0, none⟩ (.bool false)).cell? ⟨ga, 0, none⟩ = some (.int .i64 a) := (blk_cell MA.out 0).trans rfl
          have fa2 := blk_frozen MA.out 0
          have c62 : ((w.alloc (.cells #[.int .u8 y.f0, .int .i64 y.f1, .int .i64 y.f2, .int .i64 y.f3] 47)).setCell ⟨gg, 0, none⟩ (.bool false)).cell? ⟨w.heap.size, 2, none⟩ = some (.int .i64 y.f2) := (blk_cell M6.out 2).trans rfl
          go_enter Try.func61, Try.ntmps61
          go_wp2
          first | go_end0 | ((try simp only [Exit.inBlock, Exit.then]); refine bodyPost_ret (results_none rfl _ _ _) rfl ?_)
          exact ⟨⟨_, rfl⟩, blk_far (p := ⟨ga, 0, none⟩) MG.out NGA.out _, blk_put MA.out 0 _ rfl, fun k hk h1 h2 => (Below.heap_setCell _ _ _ _ h2).trans ((Below.heap_setCell _ _ _ _ h1).trans (LB.out k hk)), below_set (below_set LW.out GG.out) GA.out⟩
end Go.Proofs.Ytodldpdnhcafpaa.K

-- Plain walks of regions serve in a round of a loop over an iterator (the wide fence): operation for operation.
namespace Go.Proofs.Ytodldpdnhcafpaa.K
open Go.RowKit Go.Proofs.YtodldpdnhcafpaaW.PrintWords Go.Proofs.YtodldpdnhcafpaaW.PrintLast Go.Proofs.YtodldpdnhcafpaaW.PrintMore

def noDefer (o : Oper) : Bool := match o.op with | .defer _ => false | _ => true

section
variable {P : Program} {ops : Array Oper} {Q : Exit → Act → World → Prop} {n lp : Nat}

theorem rows_bridge {row : String} {args : Array Value} {w : World} {R : Value → World → Prop} (h : Rows P row args w R) : RowsIn (Fence.wide.inRound lp) n P row args w R :=
  fun c cs _ => let ⟨v, w', r, s⟩ := h c cs; ⟨v, w', r, by rw [fenced_inRound]; exact stepsIn_wide.2 s⟩

/-- No way out by growing. -/
def noOut (Q : Exit → Act → World → Prop) : Exit → Act → World → Prop
  | .outgrown, _, _ => False
  | e, a, w => Q e a w
theorem noOut_normal {a : Act} {w : World} : noOut Q .normal a w = Q .normal a w := rfl
theorem noOut_lets : ¬ LetsOut (noOut Q) := fun ⟨_, _, h⟩ => h

theorem oper_bridge {o : Oper} (hd : noDefer o = true) {a : Act} {w : World} {K : Act → World → Prop} (h : o.wp P a w K (noOut Q)) : o.wpIn (Fence.wide.inRound lp) n P a w K Q := by
  refine ⟨fun _ _ => trivial, ?_⟩
  have he : o.semAt (Fence.wide.inRound lp).round a.eval = execOp a.eval o :=
    Oper.semAt_some lp a.eval o (by intro c hc; simp [noDefer, hc] at hd)
  rw [he]
  unfold Oper.wp at h
  have hdep : (Fence.wide.inRound lp).depth.isSome = true → 1 ≤ n := fun h => by simp [Fence.wide] at h
  generalize (execOp a.eval o).run P w = r at *
  cases r with
  | ok x w' =>
    cases x <;> simp only [Oper.upon, Oper.uponIn] at h ⊢ <;>
      first
        | exact h
        | exact ⟨hdep, CallsIn.inRound _ (callsIn_wide.2 (Calls.mono h (fun e w' he => by cases e <;> first | exact he | exact absurd he noOut_lets)))⟩
        | exact ⟨hdep, rows_bridge h⟩
  | halt x w' => cases x <;> simp only [Oper.upon, Oper.uponIn] at h ⊢ <;> exact h

theorem list_bridge : ∀ (l : List Oper), l.all noDefer = true → ∀ a w, wpList P ops (noOut Q) l a w → wpListIn (Fence.wide.inRound lp) n P ops Q l a w
  | [], _, _, _, h => h
  | o :: rest, hd, a, w, h => by
    simp only [List.all_cons, Bool.and_eq_true] at hd
    unfold wpList at h
    unfold wpListIn
    split at h
    · rename_i hw
      rw [if_pos hw]
      rcases h with h | h
      · exact oper_bridge hd.1 (Oper.wp_mono (fun a w => list_bridge rest hd.2 a w) h)
      · exact absurd h.2 noOut_lets
    · rename_i hw
      rw [if_neg hw]
      exact ⟨fun _ _ => trivial, list_bridge rest hd.2 _ _ h⟩

end

/-- What lies in blocks of cells abides the turn of a block that is none. -/
theorem R_own {α : Type} {d : Kd α} {e : Nat} {A B : World} {base : Nat} {ok : Nat → Prop} {v : Value} {xs : List α} {row : Option Nat} (h : d.R e A base ok v xs) (hg : A.grownBy B row)
    (hr : ∀ r, row = some r → ∃ o : Obj, A.heap[r]? = some o ∧ o.isCells = false) : d.R e B base ok v xs :=
  Kd.R_mono (Kd.R_step (Kd.R_bound h) (fun k ⟨_, _, hlt, q, _, cells, hk⟩ hlt' => hg.block k hlt' (fun e' => by
    obtain ⟨_, ho, hc⟩ := hr k e'.symm
    rw [hk] at ho
    cases ho
    cases hc))) (fun _ hk => hk.1)
theorem blk_own {A B : World} {row : Option Nat} {b t : Nat} {cs : Array Value} {d : Nat × Nat} (h : A.heap[b]? = some (.cells cs t d)) (hg : A.grownBy B row)
    (hr : ∀ r, row = some r → ∃ o : Obj, A.heap[r]? = some o ∧ o.isCells = false) : B.heap[b]? = some (.cells cs t d) :=
  (hg.block b (Array.getElem?_eq_some_iff.1 h).1 (fun e' => by
    obtain ⟨_, ho, hc⟩ := hr b e'.symm
    rw [h] at ho
    cases ho
    cases hc)).trans h
/-- The law of a loop over an iterator of one variable, at the wide fence, between plain walks. -/
theorem rf1 {P : Program} {α : Type} {g : Operand} {p s : Tmp} {assign body : Code} {Q : Exit → Act → World → Prop} {a : Act} {w : World} {gf : Nat} {lb : Array Value}
    (hg : a.eval g = .func (.func gf) #[] lb) (eg : ∀ args w, (callFunc gf args).run P w = .ok (.enter gf args) w)
    {enc : α → Value} {Kp : World → World → Prop} {S Sp : List α → Prop} {N : Nat} (hseq : SeqStopsK Fence.wide 2 P gf lb (fun x => #[enc x]) Kp S Sp N w)
    (hKt : ∀ {A B C : World}, Kp A B → Kp B C → Kp A C) (hKb : ∀ (W : World) (l : Nat) (o o' : Obj), w.heap.size ≤ l → W.heap[l]? = some o → o.isCells = false → o.isWalk = false → Kp W (W.putObj l o'))
    (I : List α → World → Prop) (Ix : Code → List α → World → Prop) (hI : OwnFrom w.heap.size I) (hIx : ∀ c, OwnFrom w.heap.size (Ix c)) (h0 : I [] w)
    (hassign : ∀ (l : Nat) (x : α) (W : World) (K : Act → World → Prop), K { tmps := (a.tmps.setIfInBounds p (enc x)).setIfInBounds s (enc x), defers := [] } W →
      assign.wpIn (Fence.wide.inRound l) 1 P (Exit.then K (fun _ _ _ => False)) { tmps := a.tmps.setIfInBounds p (enc x), defers := [] } W)
    (hbody : ∀ (l : Nat) (pre : List α) (x : α) (W : World), I pre W → pre.length < N → body.wpIn (Fence.wide.inRound l) 1 P (ownPostG w.heap.size Kp I Ix (pre ++ [x]) W) { tmps := (a.tmps.setIfInBounds p (enc x)).setIfInBounds s (enc x), defers := [] } W)
    (hdone : ∀ (D : Nat) (xs : List α) (W : World), w.heap.size ≤ D → S xs → I xs W → W.heap[D]? = some (.deferred (some [])) → Q .normal { a with defers := { target := .collected D, args := #[] } :: a.defers } W)
    (hstop : ∀ (D : Nat) (c : Code) (pre : List α) (W : World), w.heap.size ≤ D → Sp pre → Ix c pre W → W.heap[D]? = some (.deferred (some [])) → c.wp P Q { a with defers := { target := .collected D, args := #[] } :: a.defers } W) :
    (Code.rangeFunc g #[p] assign body).wp P Q a w :=
  (wpIn_wide (n := 3)).1 (wpIn_rangeFunc_ownG (F := Fence.wide) (n := 3) rfl (by omega) hg trivial eg hseq (fun h k => hKt h k) hKb (Below.refl _ _) (fun _ => rfl) I Ix hI hIx h0 _ (fun l x W K hK => by simpa using hassign l x W K hK) hbody hdone
    (fun D c pre W a b c' d => wpIn_wide.2 (hstop D c pre W a b c' d)))

/-- All that lay lies as it lay, but for one box. -/
def KeepB (W0 : World) (g : Nat) (W : World) : Prop := W0.heap.size ≤ W.heap.size ∧ ∀ k, k < W0.heap.size → k ≠ g → W.heap[k]? = W0.heap[k]?
theorem KeepB.refl (W0 : World) (g : Nat) : KeepB W0 g W0 := ⟨Nat.le_refl _, fun _ _ _ => rfl⟩
theorem KeepB.blk {W0 W : World} {g b : Nat} {o : Obj} (h : KeepB W0 g W) (hb : W0.heap[b]? = some o) (hne : b ≠ g) : W.heap[b]? = some o := (h.2 b (blk_lt hb) hne).trans hb
theorem KeepB.R {α : Type} {d : Kd α} {e base g : Nat} {v : Value} {xs : List α} {W0 W : World} (h : KeepB W0 g W) (hR : d.R e W0 base (fun k => k ≠ g) v xs) : d.R e W base (fun k => k ≠ g) v xs :=
  Kd.R_step hR (fun k hk hlt => h.2 k hlt hk)
theorem KeepB.trans {W0 W W' : World} {g : Nat} (h : KeepB W0 g W) (h' : W.heap.size ≤ W'.heap.size) (hk : ∀ k, k < W0.heap.size → k ≠ g → W'.heap[k]? = W.heap[k]?) : KeepB W0 g W' :=
  ⟨Nat.le_trans h.1 h', fun k h1 h2 => (hk k h1 h2).trans (h.2 k h1 h2)⟩
theorem keepB_own {s : Type} (W0 : World) (g : Nat) : OwnFrom W0.heap.size (fun (_ : s) W => KeepB W0 g W) :=
  fun _ A B row h hg hr => h.trans hg.size (fun k hk _ => hg.block k (Nat.lt_of_lt_of_le hk h.1) (fun e => by have := (hr k e.symm).1; omega))
/-- A box that holds a row which has grown since. -/
def BoxR {α : Type} (d : Kd α) (t e : Nat) (g base b0 : Nat) (xs : List α) (W : World) : Prop := ∃ v, W.heap[g]? = some (.cells #[v] t (0, 0)) ∧ d.R e W base (fun k => b0 ≤ k) v xs
theorem boxR_own {α s : Type} {d : Kd α} {t e g base b0 B : Nat} (f : s → List α) : OwnFrom B (fun x W => BoxR d t e g base b0 (f x) W) :=
  fun _ _ _ _ ⟨v, hb, hR⟩ hg hr => ⟨v, blk_own hb hg (fun r e => (hr r e).2), R_own hR hg (fun r e => (hr r e).2)⟩
end Go.Proofs.Ytodldpdnhcafpaa.K

-- tokens (53, 62): the iterator's contract
namespace Go.Proofs.Ytodldpdnhcafpaa.K
open Go.RowKit Go.Shelf Go.Proofs.YtodldpdnhcafpaaW.PrintWords Go.Proofs.YtodldpdnhcafpaaW.PrintLast Go.Proofs.YtodldpdnhcafpaaW.PrintMore
open Go.Proofs.Ytodldpdnhcafpaa.F
attribute [local go_sem] Oper.semAt_some max2_int min2_int max_two min_two
set_option linter.unusedVariables false
set_option linter.unusedSimpArgs false

/-- No blanks, no note. -/
def tokB (l : List S61) (i : Int) : Bool := !decide ((rd_T61 l i).f0 = 0) && !decide ((rd_T61 l i).f0 = 1)
/-- The tokens from a up to b. -/
def tokR (l : List S61) (a b : Int) : List Int := ((List.range (b - a).toNat).map (fun j : Nat => a + (j : Int))).filter (tokB l)
theorem tokR_nil (l : List S61) {a b : Int} (h : b ≤ a) : tokR l a b = [] := by
  have e : (b - a).toNat = 0 := by omega
  unfold tokR
  rw [e]
  rfl
theorem tokR_succ (l : List S61) {a b : Int} (h : a ≤ b) : tokR l a (b + 1) = tokR l a b ++ (if tokB l b = true then [b] else []) := by
  have e : (b + 1 - a).toNat = (b - a).toNat + 1 := by omega
  have e2 : a + (((b - a).toNat : Nat) : Int) = b := by omega
  unfold tokR
  rw [e, List.range_succ, List.map_append, List.filter_append, List.map_singleton, e2, List.filter_cons, List.filter_nil]
theorem tokR_len (l : List S61) (a b : Int) : (tokR l a b).length ≤ (b - a).toNat := by
  unfold tokR
  refine Nat.le_trans (List.length_filter_le _ _) ?_
  simp
theorem tokR_prefix (l : List S61) {a b b' : Int} (h : b ≤ b') : tokR l a b <+: tokR l a b' := by
  unfold tokR
  refine List.IsPrefix.filter _ (List.IsPrefix.map _ ?_)
  have e : (b' - a).toNat = (b - a).toNat + ((b' - a).toNat - (b - a).toNat) := by omega
  rw [e, List.range_add]
  exact List.prefix_append _ _
/-- A token's number. -/
abbrev Tk (l : List S61) := { x : Int // 0 ≤ x ∧ x < (l.length : Int) ∧ tokB l x = true }

def valsT {l : List S61} (xs : List (Tk l)) : List Int := xs.map (·.1)
/-- What a round keeps: what lay ahead of the call, the two boxes. -/
def KpT (n₀ b1 b2 : Nat) (W W' : World) : Prop := Below n₀ W W' ∧ W'.heap[b1]? = W.heap[b1]? ∧ W'.heap[b2]? = W.heap[b2]?
theorem KpT.trans {n₀ b1 b2 : Nat} {A B C : World} (h : KpT n₀ b1 b2 A B) (k : KpT n₀ b1 b2 B C) : KpT n₀ b1 b2 A C := ⟨h.1.trans k.1, k.2.1.trans h.2.1, k.2.2.trans h.2.2⟩
theorem KpT.refl (n₀ b1 b2 : Nat) (A : World) : KpT n₀ b1 b2 A A := ⟨Below.refl _ _, rfl, rfl⟩

theorem KpT_b {n₀ B b1 b2 : Nat} (hn : n₀ ≤ B) (h1 : b1 < B) (h2 : b2 < B) (W : World) (l : Nat) (o o' : Obj) (hl : B ≤ l) (ho : W.heap[l]? = some o) (hc : o.isCells = false) (hw : o.isWalk = false) : KpT n₀ b1 b2 W (W.putObj l o') :=
  ⟨(Below.refl n₀ W).grown (grownBy_putObj' W l o') (by have := (Array.getElem?_eq_some_iff.1 ho).1; omega) (fun k e => by cases e; omega), World.putObj_heap_other (by omega), World.putObj_heap_other (by omega)⟩

set_option maxRecDepth 100000 in
set_option maxHeartbeats 2000000 in
theorem tokens1_in (n : Nat) (hn : 1 ≤ n) (lp b1 b2 : Nat) (w0 : World) (A : Option Addr) (c : Nat) (l : List S61) (x0 x1 x2 x3 : Int) (hl : l.length < 4611686018427387904) (hc : Kd.C k61 w0 A l.length l) (J Jx : List (Tk l) → World → Prop)
    (hY : ∀ pre (x : Tk l) W, J pre W → pre.length < l.length → YieldAt Fence.wide (n - 1) Try.prog lp #[.int .i64 x.1] W fun e W' =>
      (e = .returned (.bool true) ∧ J (pre ++ [x]) W' ∧ KpT w0.heap.size b1 b2 W W') ∨ (e = .returned (.bool false) ∧ Jx (pre ++ [x]) W'))
    (W : World) (hW : Below w0.heap.size w0 W) (h1 : W.heap[b1]? = some (.cells #[.int .u8 x0, .int .i64 x1, .int .i64 x2, .int .i64 x3] 47 (0, 0))) (h2 : W.heap[b2]? = some (.cells #[.slice A l.length c] 22 (0, 0))) (h0 : J [] W) :
    CallsIn Fence.wide n Try.prog 62 #[.func (.yield lp) #[] #[], .pointer (some ⟨b1, 0, none⟩), .pointer (some ⟨b2, 0, none⟩)] W fun e W' => (∃ v, e = .returned v) ∧
      ((∃ ys : List (Tk l), valsT ys = tokR l (mx x1 0) (mn x2 (l.length : Int)) ∧ J ys W') ∨ (∃ pre : List (Tk l), valsT pre <+: tokR l (mx x1 0) (mn x2 (l.length : Int)) ∧ Jx pre W')) := by
  have hu22 := Try.underlying22
  have hu47 := Try.underlying47
  have hu61 := Try.underlying61
  have hlo : 0 ≤ mx x1 0 := by unfold mx; split <;> omega
  have hhi : mn x2 (l.length : Int) ≤ (l.length : Int) := by unfold mn; split <;> omega
  obtain ⟨lo, elo⟩ : ∃ lo, mx x1 0 = lo := ⟨_, rfl⟩
  obtain ⟨hi, ehi⟩ : ∃ hi, mn x2 (l.length : Int) = hi := ⟨_, rfl⟩
  rw [elo] at hlo ⊢
  rw [ehi] at hhi ⊢
  have elo' : (if x1 < 0 then 0 else x1) = lo := elo
  have hcx : W.cell? ⟨b1, 1, none⟩ = some (.int .i64 x1) := (blk_cell h1 1).trans rfl
  have hcx2 : W.cell? ⟨b1, 2, none⟩ = some (.int .i64 x2) := (blk_cell h1 2).trans rfl
  have hcl : W.cell? ⟨b2, 0, none⟩ = some (.slice A l.length c) := (blk_cell h2 0).trans rfl
  refine callsIn_of_wp Try.func62 rfl trivial ?_ rfl
  simp only [Try.ntmps62, List.size_toArray, List.length_cons, List.length_nil, Nat.reduceAdd, Nat.reduceSub, Array.replicate_succ, Array.replicate_zero, List.push_toArray, List.append_toArray, List.nil_append, List.cons_append]
  gi_wp2
  gi_loopw [4] (fun i wr => ∃ (z : Int) (pre : List (Tk l)), i = .int .i64 z ∧ lo ≤ z ∧ (z = lo ∨ z ≤ hi) ∧ valsT pre = tokR l lo z ∧ J pre wr ∧ KpT w0.heap.size b1 b2 W wr) (fun i _ => (hi - intOf i).toNat)
  case atStart =>
    exact ⟨lo, [], rfl, Int.le_refl _, .inl rfl, by rw [tokR_nil l (Int.le_refl _)]; rfl, h0, KpT.refl _ _ _ _⟩
  case round =>
    obtain ⟨z, pre, rfl, hz, hzh, hpre, hJs, hk⟩ := hrel
    have c1 : wr.cell? ⟨b1, 2, none⟩ = some (.int .i64 x2) := (blk_cell (hk.2.1.trans h1) 2).trans rfl
    have c2 : wr.cell? ⟨b2, 0, none⟩ = some (.slice A l.length c) := (blk_cell (hk.2.2.trans h2) 0).trans rfl
    have ehi' : (if (l.length : Int) < x2 then (l.length : Int) else x2) = hi := ehi
    by_cases hlt : z < hi
    · have hz0 : 0 ≤ z := by omega
      have hzl : z < (l.length : Int) := by omega
      obtain ⟨ad, rfl, ca, _, _⟩ := at_T61 (Kd.C_below hc (hW.trans hk.1)) z hz0 hzl
      by_cases g0 : (rd_T61 l z).f0 = 0
      · have b0 : ((rd_T61 l z).f0 != 0) = false := by simp [g0]
        have ht : tokB l z = false := by simp [tokB, g0]
        clear g0
        gi_wp2
        refine ⟨fun _ h => (by cases h), ?_⟩
        gi_wp2
        go_roundw
        case rel => exact ⟨z + 1, pre, rfl, by omega, .inr (by omega), by rw [hpre, tokR_succ l hz, if_neg (by rw [ht]; simp), List.append_nil], hJs, hk⟩
        case measure => simp only [intOf]; omega
      · have b0 : ((rd_T61 l z).f0 != 0) = true := by simp [g0]
        by_cases g1 : (rd_T61 l z).f0 = 1
        · have bb1 : ((rd_T61 l z).f0 != 1) = false := by simp [g1]
          have ht : tokB l z = false := by simp [tokB, g1]
          gi_wp2
          refine ⟨fun _ h => (by cases h), ?_⟩
          gi_wp2
          go_roundw
          case rel => exact ⟨z + 1, pre, rfl, by omega, .inr (by omega), by rw [hpre, tokR_succ l hz, if_neg (by rw [ht]; simp), List.append_nil], hJs, hk⟩
          case measure => simp only [intOf]; omega
        · have bb1 : ((rd_T61 l z).f0 != 1) = true := by simp [g1]
          have ht : tokB l z = true := by simp [tokB, g0, g1]
          have hpl : pre.length < l.length := by
            have e1 : (valsT pre).length = pre.length := by simp [valsT]
            have := tokR_len l lo z
            rw [← hpre, e1] at this
            omega
          obtain ⟨fn, tmps, assign, body, hy, hR⟩ := hY pre ⟨z, hz0, hzl, ht⟩ wr hJs hpl
          dsimp only at hy
          gi_wp2
          refine hR.mono ?_
          rintro e W3 (⟨rfl, hJ3, hk3⟩ | ⟨rfl, hJx3⟩)
          · gi_wp2
            go_roundw
            case rel => exact ⟨z + 1, pre ++ [⟨z, hz0, hzl, ht⟩], rfl, by omega, .inr (by omega), by rw [tokR_succ l hz, if_pos ht, ← hpre]; simp [valsT], hJ3, hk.trans hk3⟩
            case measure => simp only [intOf]; omega
          · gi_wp2
            refine bodyPost_ret (results_none rfl _ _ _) rfl ?_
            refine ⟨⟨_, rfl⟩, .inr ⟨_, ?_, hJx3⟩⟩
            have e1 : valsT (pre ++ [⟨z, hz0, hzl, ht⟩]) = tokR l lo (z + 1) := by rw [tokR_succ l hz, if_pos ht, ← hpre]; simp [valsT]
            rw [e1]
            exact tokR_prefix l (by omega)
    · gi_wp2
      go_end0
      refine ⟨⟨_, rfl⟩, .inl ⟨pre, ?_, hJs⟩⟩
      rcases hzh with rfl | hzh
      · rw [hpre, tokR_nil l (Int.le_refl _), tokR_nil l (by omega)]
      · rw [hpre, show z = hi by omega]

theorem tokens_stops (n : Nat) (hn : 1 ≤ n) (b1 b2 : Nat) (w0 w : World) (A : Option Addr) (c : Nat) (l : List S61) (x0 x1 x2 x3 : Int) (hl : l.length < 4611686018427387904) (hc : Kd.C k61 w0 A l.length l)
    (hW : Below w0.heap.size w0 w) (h1 : w.heap[b1]? = some (.cells #[.int .u8 x0, .int .i64 x1, .int .i64 x2, .int .i64 x3] 47 (0, 0))) (h2 : w.heap[b2]? = some (.cells #[.slice A l.length c] 22 (0, 0))) :
    SeqStopsK Fence.wide n Try.prog 62 #[.pointer (some ⟨b1, 0, none⟩), .pointer (some ⟨b2, 0, none⟩)] (fun x : Tk l => #[.int .i64 x.1]) (KpT w0.heap.size b1 b2) (fun ys => valsT ys = tokR l (mx x1 0) (mn x2 (l.length : Int))) (fun pre => valsT pre <+: tokR l (mx x1 0) (mn x2 (l.length : Int))) l.length w :=
  fun lp J Jx W hb _ _ hY h0 => tokens1_in n hn lp b1 b2 w0 A c l x0 x1 x2 x3 hl hc J Jx hY W (hW.trans (hb.mono hW.size)) (blk_below h1 hb) (blk_below h2 hb) h0

theorem tokens.calls (A : Option Addr) (m c : Nat) (x0 x1 x2 x3 : Int) (w : World) :
    Calls Try.prog 53 #[.slice A m c, .agg #[.int .u8 x0, .int .i64 x1, .int .i64 x2, .int .i64 x3]] w fun e w' => ∃ b1 b2, e = .returned (.func (.func 62) #[] #[.pointer (some ⟨b1, 0, none⟩), .pointer (some ⟨b2, 0, none⟩)]) ∧
      w'.heap[b1]? = some (.cells #[.int .u8 x0, .int .i64 x1, .int .i64 x2, .int .i64 x3] 47 (0, 0)) ∧ w'.heap[b2]? = some (.cells #[.slice A m c] 22 (0, 0)) ∧ w.heap.size ≤ b1 ∧ w.heap.size ≤ b2 ∧ Below w.heap.size w w' := by
  have hu22 := Try.underlying22
  have hu47 := Try.underlying47
  have HB := Aside0.mk (Below.refl w.heap.size w)
  go_enter Try.func53, Try.ntmps53
  go_wp2_with (first
    | ((with_reducible refine gate_dst (N := 2) rfl ?_); refine box_event ?hg2 (N := 2) ?hd2 (cs := #[.slice A m c]) (t := 22) ?hr2 ?_; (case hd2 => rfl); (case hg2 => rfl); (case hr2 => first | (go_simp; done) | (go_simp; rfl)); intro g2 hg w1 hbox hb; have n0_ := Aside0.mk (below_step HB.out hb); have n1_ := Aside0.mk hbox; have GE2 := Aside0.mk (show w.heap.size ≤ g2 by rw [hg]; exact Nat.le_refl _); clear HB; have HB := n0_; have BK2 := n1_; clear n0_ n1_ hb hbox hg)
    | ((with_reducible refine gate_dst (N := 3) rfl ?_); refine box_event ?hg3 (N := 3) ?hd3 (cs := #[.int .u8 x0, .int .i64 x1, .int .i64 x2, .int .i64 x3]) (t := 47) ?hr3 ?_; (case hd3 => rfl); (case hg3 => rfl); (case hr3 => first | (go_simp; done) | (go_simp; rfl)); intro g3 hg w2 hbox hb; have n0_ := Aside0.mk (below_step HB.out hb); have n1_ := Aside0.mk hbox; have n2_ := Aside0.mk (blk_below BK2.out hb); have GE3 := Aside0.mk (show w.heap.size ≤ g3 by rw [hg]; exact HB.out.size); clear HB BK2; have HB := n0_; have BK3 := n1_; have BK2 := n2_; clear n0_ n1_ n2_ hb hbox hg))
  go_ret
  exact ⟨g3, g2, rfl, BK3.out, BK2.out, GE3.out, GE2.out, HB.out⟩
end Go.Proofs.Ytodldpdnhcafpaa.K

namespace Go.Proofs.Ytodldpdnhcafpaa.F
open Go.RowKit Go.Proofs.YtodldpdnhcafpaaW.PrintWords Go.Proofs.YtodldpdnhcafpaaW.PrintLast Go.Proofs.YtodldpdnhcafpaaW.PrintMore
open Go.Proofs.Ytodldpdnhcafpaa.K
set_option linter.unusedVariables false
set_option linter.unusedSimpArgs false

def tree_Kids.f (k : Nat) (l : List S47) (n : Int) : Option (List Int) := (kids.f k l n).bind fun r => if r.1.length < 17592186044415 then some (if r.2 = true then r.1 else []) else none
/-- What the captured variable holds. -/
def KJ (w0 : World) (g5 : Nat) (gb : Nat) (pre : List Int) (W : World) : Prop :=
  gb ≠ g5 ∧ ∃ v, W.heap[g5]? = some (.cells #[v] 33 (0, 0)) ∧ (Kd.int .i64).R 3 W w0.heap.size (fun k => k ≠ gb ∧ k ≠ g5) v pre
set_option maxHeartbeats 2000000 in
theorem tree_Kids.calls (k : Nat) (A : Option Addr) (c : Nat) (l : List S47) (n : Int) (r : List Int) (w : World) (hr : Kd.C k47 w A l.length l) (hc : l.length ≤ c) (h : tree_Kids.f k l n = some r) :
    Calls Try.prog 35 #[.agg #[.slice A l.length c], .int .i64 n] w fun e w' => ∃ v0_ : Value, e = .returned (v0_) ∧ Kd.R (Kd.int .i64) 3 w' w.heap.size (fun _ => True) v0_ r ∧ Below w.heap.size w w' := by
  have hu25 := Try.underlying25
  have hu33 := Try.underlying33
  obtain ⟨⟨ks, ok⟩, hk, h⟩ := Option.bind_eq_some_iff.1 h
  have hlen : ks.length < 17592186044415 := Classical.byContradiction fun hh => by rw [if_neg hh] at h; cases h
  rw [if_pos hlen] at h
  simp only [Option.some.injEq] at h
  have HL := Aside0.mk hlen
  have HF := Aside0.mk hk
  have HE := Aside0.mk h
  have HR := Aside0.mk hr
  have HC := Aside0.mk hc
  clear hlen hk h hr hc
  have HB := Aside0.mk (Below.refl w.heap.size w)
  have EG : ∀ args W, (callFunc 57 args).run Try.prog W = .ok (.enter 57 args) W := fun args W => enters_ Try.func57 (by kernel_rfl) rfl args W
  have EG' := Aside0.mk EG
  clear EG
  go_enter Try.func35, Try.ntmps35
  go_wp2_with (first
    | ((with_reducible refine gate_dst (N := 2) rfl ?_); refine box_event ?hg2 (N := 2) ?hd2 (cs := #[.slice A l.length c]) (t := 25) ?hr2 ?_; (case hd2 => rfl); (case hg2 => rfl); (case hr2 => first | (go_simp; done) | (go_simp; rfl)); intro g2 hg w1 hbox hb; have n0_ := Aside0.mk (below_step HB.out hb); have n1_ := Aside0.mk hbox; clear HB; have HB := n0_; have BK2 := n1_; clear n0_ n1_ hb hbox hg; have hcz2 : w1.cell? ⟨g2, 0, none⟩ = some (.slice A l.length c) := (blk_cell BK2.out 0).trans rfl)
    | ((with_reducible refine gate_dst (N := 5) rfl ?_); refine box_event ?hg5 (N := 5) ?hd5 (cs := #[.slice none 0 0]) (t := 33) ?hr5 ?_; (case hd5 => rfl); (case hg5 => rfl); (case hr5 => first | (go_simp; done) | (go_simp; rfl)); intro g5 hg w2 hbox hb; have n0_ := Aside0.mk (below_step HB.out hb); have n1_ := Aside0.mk hbox; have n2_ := Aside0.mk (blk_below BK2.out hb); have n3_ := Aside0.mk (show w.heap.size ≤ g5 by rw [hg]; exact HB.out.size); clear HB BK2 hcz2; have HB := n0_; have BK5 := n1_; have BK2 := n2_; have GE5 := n3_; clear n0_ n1_ n2_ n3_ hb hbox hg; have hcz2 : w2.cell? ⟨g2, 0, none⟩ = some (.slice A l.length c) := (blk_cell BK2.out 0).trans rfl; have hcz5 : w2.cell? ⟨g5, 0, none⟩ = some (.slice none 0 0) := (blk_cell BK5.out 0).trans rfl))
  refine (kids.calls 57 #[.pointer (some ⟨g5, 0, none⟩)] EG'.out (KJ w g5) k A c l n ks ok w _ HR.out HC.out HB.out HF.out ?h0 ?hal ?hY).mono ?_
  case h0 => exact fun gb hgb => ⟨fun e => by have := blk_lt BK5.out; omega, _, BK5.out, Kd.R_nil _ _ _ _ _⟩
  case hal =>
    rintro gb pre W W' ⟨h1, v, h2, h3⟩ hb
    exact ⟨h1, v, blk_below h2 hb, Kd.R_below h3 hb⟩
  case hY =>
    rintro gb pre x W hp h0 h1 ⟨j1, v, j2, j3⟩ hge hlt hbW
    have hpl : pre.length < 17592186044415 := by
      have := hp.length_le
      rw [List.length_append, List.length_singleton] at this
      have := HL.out
      omega
    refine (kids1.calls x g5 gb v pre w W j2 j3 hpl hbW GE5.out j1 hlt).mono ?_
    rintro e w' ⟨hv, ⟨v', b1, b2⟩, b3, b4⟩
    exact ⟨hv, ⟨j1, v', b1, b2⟩, b3, b4⟩
  rintro e w3 ⟨rfl, ⟨gb, hj⟩, hb3⟩
  have HJ := Aside0.mk hj
  have HB3 := Aside0.mk hb3
  clear hj hb3 hcz2 hcz5
  cases ok with
  | false =>
    have he := HE.out
    simp only [Bool.false_eq_true, if_false] at he
    subst he
    go_wp2
    go_ret
    exact ⟨_, rfl, Kd.R_nil _ _ _ _ _, HB3.out⟩
  | true =>
    have he := HE.out
    simp only [if_true] at he
    subst he
    obtain ⟨j1, v, j2, j3⟩ := HJ.out
    obtain ⟨Av, cv, rfl⟩ := Kd.R_slice j3
    have hc5 : w3.cell? ⟨g5, 0, none⟩ = some (.slice Av ks.length cv) := (blk_cell j2 0).trans rfl
    have J3 := Aside0.mk j3
    clear j1 j2 j3 HJ
    go_wp2
    go_ret
    exact ⟨_, rfl, Kd.R_mono J3.out (fun _ _ => trivial), HB3.out⟩
end Go.Proofs.Ytodldpdnhcafpaa.F

-- Own (39): its contract
namespace Go.Proofs.Ytodldpdnhcafpaa.F
open Go.RowKit Go.Shelf Go.Proofs.YtodldpdnhcafpaaW.PrintWords Go.Proofs.YtodldpdnhcafpaaW.PrintLast Go.Proofs.YtodldpdnhcafpaaW.PrintMore
open Go.Proofs.Ytodldpdnhcafpaa.K
attribute [local go_sem] Oper.semAt_some
set_option linter.unusedVariables false
set_option linter.unusedSimpArgs false

/-- Does one of these kids hold the token? -/
def heldB (ns : List S47) (ks : List Int) (i : Int) : Bool := ks.any (fun k => decide ((rd_T47 ns k).f1 ≤ i) && decide (i < (rd_T47 ns k).f2))
def ownL (ns : List S47) (ks : List Int) (is : List Int) : List Int := is.filter (fun i => !heldB ns ks i)
def tree_Own.f (k : Nat) (l : List S61) (ns : List S47) (n : Int) : Option (List Int) :=
  if n < 0 then some [] else if n ≥ (ns.length : Int) then some [] else
    (tree_Kids.f k ns n).bind fun ks => if l.length < 17592186044415 ∧ ks.length < 17592186044415 ∧ (∀ x ∈ ks, 0 ≤ x ∧ x < (ns.length : Int)) then
      some (ownL ns ks (tokR l (mx (rd_T47 ns n).f1 0) (mn (rd_T47 ns n).f2 (l.length : Int)))) else none
theorem heldB_take {ns : List S47} {ks : List Int} {i : Int} {n : Nat} (h : heldB ns (ks.take n) i = true) : heldB ns ks i = true := by
  unfold heldB at *
  obtain ⟨x, hx, hp⟩ := List.any_eq_true.1 h
  exact List.any_eq_true.2 ⟨x, List.mem_of_mem_take hx, hp⟩
theorem ownL_held {l : List S61} {ns : List S47} {ks : List Int} {pre : List (Tk l)} {x : Tk l} (h : heldB ns ks x.1 = true) : ownL ns ks (valsT (pre ++ [x])) = ownL ns ks (valsT pre) := by
  simp [valsT, ownL, h]
theorem ownL_own {l : List S61} {ns : List S47} {ks : List Int} {pre : List (Tk l)} {x : Tk l} (h : heldB ns ks x.1 = false) : ownL ns ks (valsT (pre ++ [x])) = ownL ns ks (valsT pre) ++ [x.1] := by
  simp [valsT, ownL, h]
theorem ownL_len {l : List S61} {ns : List S47} {ks : List Int} {pre : List (Tk l)} : (ownL ns ks (valsT pre)).length ≤ pre.length := by
  unfold ownL
  refine Nat.le_trans (List.length_filter_le _ _) ?_
  simp [valsT]

set_option maxHeartbeats 2000000 in
set_option maxRecDepth 100000 in
theorem tree_Own.calls (k : Nat) (A0 : Option Addr) (c0 : Nat) (l0 : List S61) (A1_0 : Option Addr) (c1_0 : Nat) (l1_0 : List S47) (a2 : Int) (r : List Int) (w : World) (hr0 : Kd.C k61 w A0 l0.length l0) (hc0 : l0.length ≤ c0) (hr1_0 : Kd.C k47 w A1_0 l1_0.length l1_0) (hc1_0 : l1_0.length ≤ c1_0) (h : tree_Own.f k l0 l1_0 a2 = some r) :
    Calls Try.prog 39 #[.slice A0 l0.length c0, .agg #[.slice A1_0 l1_0.length c1_0], .int .i64 a2] w fun e w' => ∃ v0_ : Value, e = .returned (v0_) ∧ Kd.R (Kd.int .i64) 3 w' w.heap.size (fun _ => True) v0_ r ∧ Below w.heap.size w w' := by
  have hu22 := Try.underlying22
  have hu23 := Try.underlying23
  have hu25 := Try.underlying25
  have hu33 := Try.underlying33
  have hu47 := Try.underlying47
  have HR0 := Aside0.mk hr0
  have HR1 := Aside0.mk hr1_0
  have HC1 := Aside0.mk hc1_0
  have HB := Aside0.mk (Below.refl w.heap.size w)
  unfold tree_Own.f at h
  by_cases c7 : a2 < 0
  · rw [if_pos c7] at h
    obtain rfl := Option.some.inj h
    have c7b0 : decide (a2 < 0) = true := decide_eq_true c7
    clear c7 h
    go_enter Try.func39, Try.ntmps39
    go_wp2_with (first
      | ((with_reducible refine gate_dst (N := 4) rfl ?_); refine box_event ?hg4 (N := 4) ?hd4 (cs := #[.slice A1_0 l1_0.length c1_0]) (t := 25) ?hr4 ?_; (case hd4 => rfl); (case hg4 => rfl); (case hr4 => first | (go_simp; done) | (go_simp; rfl)); intro g4 hg w1 hbox hb; have n0_ := Aside0.mk (below_step HB.out hb); have n1_ := Aside0.mk hbox; clear HB; have HB := n0_; have BK4 := n1_; clear n0_ n1_ hb hbox hg))
    go_step3
    go_wp2
    rw [Exit.noGoto_ret]
    go_ret
    exact ⟨_, rfl, Kd.R_nil _ _ _ _ _, HB.out⟩
  rw [if_neg c7] at h
  have c7b0 : decide (a2 < 0) = false := decide_eq_false c7
  by_cases c8 : a2 ≥ (l1_0.length : Int)
  · rw [if_pos c8] at h
    obtain rfl := Option.some.inj h
    have c8b0 : decide (a2 ≥ (l1_0.length : Int)) = true := decide_eq_true c8
    clear c7 c8 h
    go_enter Try.func39, Try.ntmps39
    go_wp2_with (first
      | ((with_reducible refine gate_dst (N := 4) rfl ?_); refine box_event ?hg4 (N := 4) ?hd4 (cs := #[.slice A1_0 l1_0.length c1_0]) (t := 25) ?hr4 ?_; (case hd4 => rfl); (case hg4 => rfl); (case hr4 => first | (go_simp; done) | (go_simp; rfl)); intro g4 hg w1 hbox hb; have n0_ := Aside0.mk (below_step HB.out hb); have n1_ := Aside0.mk hbox; clear HB; have HB := n0_; have BK4 := n1_; clear n0_ n1_ hb hbox hg; have hcz4 : w1.cell? ⟨g4, 0, none⟩ = some (.slice A1_0 l1_0.length c1_0) := (blk_cell BK4.out 0).trans rfl))
    go_step3
    go_wp2
    rw [Exit.noGoto_ret]
    go_ret
    exact ⟨_, rfl, Kd.R_nil _ _ _ _ _, HB.out⟩
  rw [if_neg c8] at h
  have c8b0 : decide (a2 ≥ (l1_0.length : Int)) = false := decide_eq_false c8
  obtain ⟨ks, hks, h⟩ := Option.bind_eq_some_iff.1 h
  have hcond : l0.length < 17592186044415 ∧ ks.length < 17592186044415 ∧ (∀ x ∈ ks, 0 ≤ x ∧ x < (l1_0.length : Int)) := Classical.byContradiction fun hh => by rw [if_neg hh] at h; cases h
  rw [if_pos hcond] at h
  obtain ⟨hL0, hKL, hin⟩ := hcond
  obtain rfl := Option.some.inj h
  have HIN := Aside0.mk hin
  have HKS := Aside0.mk hks
  have HL0 := Aside0.mk hL0
  have C7 := Aside0.mk c7
  have C8 := Aside0.mk c8
  clear h hin hks hL0 c7 c8 hr0 hc0 hr1_0 hc1_0
  refine (callsIn_wide (n := 3)).1 ?_
  refine callsIn_of_wp_marks Try.func39 rfl trivial ?_ rfl
  simp only [Try.ntmps39, List.size_toArray, List.length_cons, List.length_nil, Nat.reduceAdd, Nat.reduceSub, Array.replicate_succ, Array.replicate_zero, List.push_toArray, List.append_toArray, List.nil_append, List.cons_append]
  refine wpIn_wide.2 ?_
  go_wp2_with (first
    | ((with_reducible refine gate_dst (N := 4) rfl ?_); refine box_event ?hg4 (N := 4) ?hd4 (cs := #[.slice A1_0 l1_0.length c1_0]) (t := 25) ?hr4 ?_; (case hd4 => rfl); (case hg4 => rfl); (case hr4 => first | (go_simp; done) | (go_simp; rfl)); intro g4 hg w1 hbox hb; have n0_ := Aside0.mk (below_step HB.out hb); have n1_ := Aside0.mk hbox; have GE4 := Aside0.mk (show w.heap.size ≤ g4 by rw [hg]; exact Nat.le_refl _); clear HB; have HB := n0_; have BK4 := n1_; clear n0_ n1_ hb hbox hg; have hcz4 : w1.cell? ⟨g4, 0, none⟩ = some (.slice A1_0 l1_0.length c1_0) := (blk_cell BK4.out 0).trans rfl))
  go_step3
  go_wp2_with (fail)
  refine (tree_Kids.calls k A1_0 c1_0 l1_0 a2 ks _ (Kd.C_below HR1.out HB.out) HC1.out HKS.out).mono ?_
  rintro e w2 ⟨vm, rfl, hvm, hb2⟩
  obtain ⟨Am, cm, rfl⟩ := Kd.R_slice hvm
  have HVM := Aside0.mk hvm
  have n0_ := Aside0.mk (below_step HB.out hb2)
  have n1_ := Aside0.mk (blk_below BK4.out hb2)
  clear HB BK4 hcz4 hvm hb2
  have HB := n0_
  have BK4 := n1_
  clear n0_ n1_
  go_wp2_with (fail)
  have b7 : ((w2.alloc (.cells #[.slice Am ks.length cm] 33)).alloc (.cells #[.slice none 0 0] 33)).heap[w2.heap.size]? = some (.cells #[.slice Am ks.length cm] 33 (0, 0)) := blk_alloc (blk_new w2 _) _
  have b8 : ((w2.alloc (.cells #[.slice Am ks.length cm] 33)).alloc (.cells #[.slice none 0 0] 33)).heap[w2.heap.size + 1]? = some (.cells #[.slice none 0 0] 33 (0, 0)) := by
    have e := blk_new (w2.alloc (.cells #[.slice Am ks.length cm] 33)) (.cells #[.slice none 0 0] 33)
    rwa [World.size_alloc] at e
  have b4 := blk_alloc (blk_alloc BK4.out (.cells #[.slice Am ks.length cm] 33)) (.cells #[.slice none 0 0] 33)
  have bm : (Kd.int .i64).R 3 ((w2.alloc (.cells #[.slice Am ks.length cm] 33)).alloc (.cells #[.slice none 0 0] 33)) w1.heap.size (fun k => k ≠ w2.heap.size + 1) (.slice Am ks.length cm) ks :=
    Kd.R_alloc (Kd.R_alloc (Kd.R_mono (Kd.R_bound HVM.out) (fun k hk => by have := hk.2.2.1; omega)) _) _
  have bb := below_alloc (below_alloc HB.out (.cells #[.slice Am ks.length cm] 33)) (.cells #[.slice none 0 0] 33)
  have g7w := HB.out.size
  have n78 : w2.heap.size ≠ w2.heap.size + 1 := by omega
  have n48 : g4 ≠ w2.heap.size + 1 := by have := blk_lt BK4.out; omega
  have s3 : w2.heap.size + 2 = ((w2.alloc (.cells #[.slice Am ks.length cm] 33)).alloc (.cells #[.slice none 0 0] 33)).heap.size := by simp
  have g8w : w.heap.size ≤ w2.heap.size + 1 := by omega
  clear HB BK4 HVM
  generalize (w2.alloc (.cells #[.slice Am ks.length cm] 33)).alloc (.cells #[.slice none 0 0] 33) = w3 at b7 b8 b4 bm bb s3 ⊢
  generalize w2.heap.size + 1 = g8 at b8 bm n78 n48 g8w ⊢
  generalize w2.heap.size = g7 at b7 n78 g7w s3 ⊢
  have HB := Aside0.mk bb
  have BK4 := Aside0.mk b4
  have BK7 := Aside0.mk b7
  have BK8 := Aside0.mk b8
  have HVM := Aside0.mk bm
  have N78 := Aside0.mk n78
  have N48 := Aside0.mk n48
  have G8W := Aside0.mk g8w
  clear bb b4 b7 b8 bm n78 n48 g8w s3 g7w
  have p211 : 0 ≤ a2 := by have := C7.out; omega
  have q211 : a2 < (l1_0.length : Int) := by have := C8.out; omega
  obtain ⟨ad1, e1, hx0, hx1, hx2, hx3⟩ := at_T47 (Kd.C_below HR1.out HB.out) a2 p211 q211
  cases e1
  replace p211 := eq_true p211
  replace q211 := eq_true q211
  have hcz4 : w3.cell? ⟨g4, 0, none⟩ = some (.slice (some ad1) l1_0.length c1_0) := (blk_cell BK4.out 0).trans rfl
  go_step3
  go_wp2_with (fail)
  refine (tokens.calls A0 l0.length c0 _ _ _ _ _).mono ?_
  rintro e w4 ⟨b1, b2, rfl, k1, k2, gb1, gb2, hb4⟩
  clear hx0 hx1 hx2 hx3 hcz4 p211 q211
  have n0_ := Aside0.mk (below_step HB.out hb4)
  have n4_ := Aside0.mk (blk_below BK4.out hb4)
  have n7_ := Aside0.mk (blk_below BK7.out hb4)
  have n8_ := Aside0.mk (blk_below BK8.out hb4)
  have nm_ := Aside0.mk (Kd.R_below HVM.out hb4)
  have nb1_ := Aside0.mk (show b1 ≠ g8 by have := blk_lt BK8.out; omega)
  have nb2_ := Aside0.mk (show b2 ≠ g8 by have := blk_lt BK8.out; omega)
  have K1 := Aside0.mk k1
  have K2 := Aside0.mk k2
  clear HB BK4 BK7 BK8 HVM hb4 k1 k2 gb1 gb2
  go_wp2_with (fail)
  refine rf1 (gf := 62) (lb := #[.pointer (some ⟨b1, 0, none⟩), .pointer (some ⟨b2, 0, none⟩)]) (p := 31) (s := 9) rfl (enters_of Try.func62 (by kernel_rfl) rfl) (tokens_stops 2 (by omega) b1 b2 w w4 A0 c0 l0 _ _ _ _ (by have := HL0.out; omega) HR0.out n0_.out K1.out K2.out) KpT.trans (KpT_b n0_.out.size (blk_lt K1.out) (blk_lt K2.out))
    (fun pre W => BoxR (Kd.int .i64) 33 3 g8 w.heap.size w4.heap.size (ownL l1_0 ks (valsT pre)) W ∧ KeepB w4 g8 W ∧ Below w.heap.size w W)
    (fun _ _ _ => False)
    (OwnFrom.and (boxR_own _) (OwnFrom.and (keepB_own w4 g8) (ownFrom_below (Nat.le_refl _) n0_.out.size)))
    (fun _ _ _ _ _ hs _ _ => hs)
    ⟨⟨_, n8_.out, Kd.R_nil _ _ _ _ _⟩, KeepB.refl _ _, n0_.out⟩ ?assign ?body ?done ?stop
  case assign =>
    intro lp x W K hK
    simp only [List.setIfInBounds_toArray, List.set_cons_zero, List.set_cons_succ] at hK ⊢
    gi_wp2
    exact hK
  case stop => exact fun _ _ _ _ _ _ h _ => h.elim
  case done =>
    rintro D ys W hD hys ⟨⟨v, hv, hR⟩, hk, hB⟩ hK
    rw [hys] at hR
    obtain ⟨Av, cv, rfl⟩ := Kd.R_slice hR
    have c8 : W.cell? ⟨g8, 0, none⟩ = some (.slice Av (ownL l1_0 ks (tokR l0 (mx (rd_T47 l1_0 a2).f1 0) (mn (rd_T47 l1_0 a2).f2 (l0.length : Int)))).length cv) := (blk_cell hv 0).trans rfl
    have HD := Aside0.mk hD
    have HV := Aside0.mk hR
    have HW := Aside0.mk hB
    have HK := Aside0.mk hK
    clear hD hys hv hR hk hB hK
    go_wp2
    refine ⟨by simp, .inl ⟨_, _, rfl, run_takeDeferred HK.out, ?_⟩⟩
    refine ⟨_, results_tmp rfl _ _ _, _, rfl, Kd.R_mono (R_own HV.out (grownBy_putObj' W D _) (fun r e => by cases e; exact ⟨_, HK.out, rfl⟩)) (fun _ _ => trivial), HW.out.grown (grownBy_putObj' W D _) HW.out.size (fun k e => by cases e; exact Nat.le_trans n0_.out.size HD.out)⟩
  case body =>
    rintro lp pre x W ⟨⟨v, hv, hR⟩, hk, hB⟩ hlt
    simp only [List.setIfInBounds_toArray, List.set_cons_zero, List.set_cons_succ]
    have c7 : W.cell? ⟨g7, 0, none⟩ = some (.slice Am ks.length cm) := (blk_cell (hk.blk n7_.out N78.out) 0).trans rfl
    obtain ⟨Av, cv, rfl⟩ := Kd.R_slice hR
    gi_wp2
    gi_loopw [11, 34] (fun v11 v34 wr => ∃ j : Int, v34 = .int .i64 j ∧ 0 ≤ j ∧ j ≤ (ks.length : Int) ∧ heldB l1_0 (ks.take j.toNat) x.1 = false ∧ wr = W) (fun v11 v34 _ => ((ks.length : Int) - intOf v34).toNat)
    case atStart => exact ⟨0, rfl, Int.le_refl _, by omega, rfl, rfl⟩
    case round =>
      obtain ⟨j, rfl, hj0, hjl, hno, rfl⟩ := hrel
      have c4 : wr.cell? ⟨g4, 0, none⟩ = some (.slice (some ad1) l1_0.length c1_0) := (blk_cell (hk.blk n4_.out N48.out) 0).trans rfl
      by_cases hj : j < (ks.length : Int)
      · have hmem : rd ks j ∈ ks := by
          have hjn : j.toNat < ks.length := by omega
          have e : rd ks j = ks[j.toNat] := by simp [rd, List.getD_eq_getElem?_getD, hjn]
          rw [e]
          exact List.getElem_mem _
        obtain ⟨hk0, hk1⟩ := HIN.out _ hmem
        obtain ⟨_, _, hcm⟩ := Kd.R_reads' (hk.R nm_.out)
        obtain ⟨adm, em, hxm⟩ := Kd.at_int hcm j hj0 hj
        obtain ⟨ad2, e2, _, hy1, hy2, _⟩ := at_T47 (Kd.C_below HR1.out hB) (rd ks j) hk0 hk1
        cases e2
        subst em
        have hst : heldB l1_0 (ks.take (j + 1).toNat) x.1 = (decide ((rd_T47 l1_0 (rd ks j)).f1 ≤ x.1) && decide (x.1 < (rd_T47 l1_0 (rd ks j)).f2)) := by
          have hjn : j.toNat < ks.length := by omega
          have e : rd ks j = ks[j.toNat] := by simp [rd, List.getD_eq_getElem?_getD, hjn]
          have e1 : (j + 1).toNat = j.toNat + 1 := by omega
          rw [e1, List.take_succ_eq_append_getElem hjn]
          unfold heldB at hno ⊢
          rw [List.any_append, hno, List.any_cons, List.any_nil, e, Bool.false_or, Bool.or_false]
        by_cases d1 : (rd_T47 l1_0 (rd ks j)).f1 ≤ x.1
        · by_cases d2 : x.1 < (rd_T47 l1_0 (rd ks j)).f2
          · gi_wp2
            have hh : heldB l1_0 ks x.1 = true := heldB_take (n := (j + 1).toNat) (by rw [hst, decide_eq_true d1, decide_eq_true d2]; rfl)
            refine ⟨KeepsFrom.refl _ _, KpT.refl _ _ _ _, ?_, hk, hB⟩
            rw [ownL_held hh]
            exact ⟨_, hv, hR⟩
          · gi_wp2
            go_roundw
            case rel => exact ⟨j + 1, rfl, by omega, by omega, by rw [hst, decide_eq_false d2, Bool.and_false], trivial⟩
            case measure => simp only [intOf]; omega
        · gi_wp2
          go_roundw
          case rel => exact ⟨j + 1, rfl, by omega, by omega, by rw [hst, decide_eq_false d1, Bool.false_and], trivial⟩
          case measure => simp only [intOf]; omega
      · obtain rfl : j = (ks.length : Int) := by omega
        have c8 : wr.cell? ⟨g8, 0, none⟩ = some (.slice Av (ownL l1_0 ks (valsT pre)).length cv) := (blk_cell hv 0).trans rfl
        have f8 := blk_frozen hv 0
        gi_wp2_with (gi_at_builtin; refine list_bridge _ (by rfl) _ _ ?_)
        have hno' : heldB l1_0 ks x.1 = false := by
          rw [show ((ks.length : Int)).toNat = ks.length by omega, List.take_length] at hno
          exact hno
        have HV := Aside0.mk hR
        have HW := Aside0.mk hB
        have HBX := Aside0.mk hv
        have HKK := Aside0.mk hk
        have hlen : (ownL l1_0 ks (valsT pre)).length < 17592186044415 := by
          have := ownL_len (ns := l1_0) (ks := ks) (pre := pre)
          have := HL0.out
          omega
        clear hR hB hv hk
        go_wp2_with (first
          | (at_builtin; refine Kd.R_append (Kd.int .i64) (w0 := w) w.heap.size rfl (.tmp 57) (.tmp 59) 33 3 (.int .i64 0) 8 rfl Try.underlying33 info3' rfl (by decide) (by omega) (.slice Av (ownL l1_0 ks (valsT pre)).length cv) (ownL l1_0 ks (valsT pre)) x.1 [.int .i64 x.1] (fun k => w4.heap.size ≤ k) (fun _ => False) rfl rfl ?aP (fun _ hk => hk.elim) ?aF ?aO ?aB ?aS ?aL ?_; (case aP => exact rfl); (case aF => exact (fun k hk => Nat.le_trans HKK.out.1 hk)); (case aO => exact HV.out); (case aB => exact HW.out); (case aS => exact HW.out.size); (case aL => omega); intro v1 w1 ho hb1 hg hat; have n0_ := Aside0.mk (blk_grown HBX.out hg (fun e => by have := HV.out.1 _ e.symm; have := blk_lt n8_.out; omega)); have HG := Aside0.mk hg; have HO := Aside0.mk ho; have HB1 := Aside0.mk hb1; clear c8 f8 ho hb1 hg hat; have c8 : w1.cell? ⟨g8, 0, none⟩ = some (.slice Av (ownL l1_0 ks (valsT pre)).length cv) := (blk_cell n0_.out 0).trans rfl; have f8 := blk_frozen n0_.out 0; obtain ⟨A1, c1, e1⟩ := Kd.R_slice HO.out; subst e1))
        (rw [noOut_normal]; gi_wp2)
        have hlt8 := blk_lt n8_.out
        have hne : ∀ k, k < w4.heap.size → some k ≠ (Value.slice Av (ownL l1_0 ks (valsT pre)).length cv).ownBlock := fun k hk e => by have := HV.out.1 _ e.symm; omega
        have hs1 : wr.heap.size ≤ w1.heap.size := HG.out.size
        have hs0 := HKK.out.1
        refine ⟨⟨by simpa using hs1, fun k o hk ho hc => ?_⟩, ⟨((Below.refl w.heap.size wr).grown HG.out HW.out.size (fun k e => by have := HV.out.1 _ e; have := n0_.out; have := HW.out.size; have := G8W.out; omega)).setCell (p := ⟨g8, 0, none⟩) G8W.out _, ?_, ?_⟩, ⟨_, blk_put n0_.out 0 _ rfl, ?_⟩, HKK.out.trans (by simpa using hs1) (fun k h1 h2 => ?_), below_set HB1.out G8W.out⟩
        · refine (Below.heap_setCell _ _ _ k (show k ≠ g8 by omega)).trans ((HG.out.block k (blk_lt ho) (fun e => ?_)).trans ho)
          obtain ⟨_, _, _, q, _, cells, hcell⟩ := (Kd.R_bound HV.out).1 k e.symm
          rw [hcell] at ho
          cases ho
          cases hc
        · exact (Below.heap_setCell _ _ _ b1 nb1_.out).trans (HG.out.block b1 (by have := blk_lt K1.out; omega) (hne b1 (blk_lt K1.out)))
        · exact (Below.heap_setCell _ _ _ b2 nb2_.out).trans (HG.out.block b2 (by have := blk_lt K2.out; omega) (hne b2 (blk_lt K2.out)))
        · rw [ownL_own hno']
          have e := Kd.R_far (p := ⟨g8, 0, none⟩) HO.out (fun k hk => (by have : w4.heap.size ≤ k := hk; show k ≠ g8; omega)) (.slice A1 (ownL l1_0 ks (valsT pre) ++ [x.1]).length c1)
          simpa only [List.length_append, List.length_singleton] using e
        · exact (Below.heap_setCell _ _ _ k h2).trans (HG.out.block k (by omega) (hne k h1))
end Go.Proofs.Ytodldpdnhcafpaa.F

-- A text of this session's own program (wip/myprint.sh over a changed print tool): functions and their walks
namespace Go.Proofs.Ytodldpdnhcafpaa.F
open Go.RowKit Go.Proofs.YtodldpdnhcafpaaW.PrintWords Go.Proofs.YtodldpdnhcafpaaW.PrintLast Go.Proofs.YtodldpdnhcafpaaW.PrintMore
attribute [local go_sem] max2_int min2_int max_two min_two max_three min_three max_four min_four   -- for this text's walks alone
set_option linter.unusedVariables false
set_option linter.unusedSimpArgs false

/-! ### tree_shaped: function 60 -/
mutual
def tree_shaped.j0 : Nat → Bool → List (S47) → Option (Bool)
  | 0, _, _ => none
  | k + 1, x21, x313000 => if x21 = true then (some false) else (tree_shaped.l0 k ([] : List Int) x313000 (x313000.length : Int) 0 x313000)
def tree_shaped.l0 : Nat → List Int → List (S47) → Int → Int → List (S47) → Option (Bool)
  | 0, _, _, _, _, _ => none
  | k + 1, x3, x23, x24, x25, x313000 => if x25 < x24 then (if 0 ≤ x25 then (if x25 < (x23.length : Int) then (tree_shaped.l1 k x3 x25 x23 x24 x25 x313000 ((rd_T47 x23 x25).f0) ((rd_T47 x23 x25).f1) ((rd_T47 x23 x25).f2) ((rd_T47 x23 x25).f3)) else (none)) else (none)) else (some true)
def tree_shaped.j3 : Nat → List Int → Int → List (S47) → Int → Int → List (S47) → Int → Int → Int → Int → Option (Bool)
  | 0, _, _, _, _, _, _, _, _, _, _ => none
  | k + 1, x3, x4, x23, x24, x25, x313000, x316000, x316001, x316002, x316003 => if (x3.length : Int) > 0 then (if 0 ≤ (wrap64 ((x3.length : Int) - 1)) then (if (wrap64 ((x3.length : Int) - 1)) < (x3.length : Int) then (if x316000 ≥ 58 then (some false) else (if x316003 < 1 then (some false) else (if x316003 > (wrap64 ((rd x3 (wrap64 ((x3.length : Int) - 1))) - x4)) then (some false) else (if x3.length < 17592186044416 then (tree_shaped.l0 k (x3 ++ [wrap64 (x4 + x316003)]) x23 x24 (wrap64 (x25 + 1)) x313000) else (none))))) else (none)) else (none)) else (if x316000 ≥ 58 then (some false) else (if x316003 < 1 then (some false) else (if x316003 > (wrap64 ((x313000.length : Int) - x4)) then (some false) else (if x3.length < 17592186044416 then (tree_shaped.l0 k (x3 ++ [wrap64 (x4 + x316003)]) x23 x24 (wrap64 (x25 + 1)) x313000) else (none)))))
def tree_shaped.l1 : Nat → List Int → Int → List (S47) → Int → Int → List (S47) → Int → Int → Int → Int → Option (Bool)
  | 0, _, _, _, _, _, _, _, _, _, _ => none
  | k + 1, x3, x4, x23, x24, x25, x313000, x316000, x316001, x316002, x316003 => if (x3.length : Int) > 0 then (if 0 ≤ (wrap64 ((x3.length : Int) - 1)) then (if (wrap64 ((x3.length : Int) - 1)) < (x3.length : Int) then (if (rd x3 (wrap64 ((x3.length : Int) - 1))) = x4 then (if (wrap64 ((x3.length : Int) - 1)) ≤ (x3.length : Int) then (tree_shaped.l1 k (x3.take ((wrap64 ((x3.length : Int) - 1)) : Int).toNat) x4 x23 x24 x25 x313000 x316000 x316001 x316002 x316003) else (none)) else (tree_shaped.j3 k x3 x4 x23 x24 x25 x313000 x316000 x316001 x316002 x316003)) else (none)) else (none)) else (tree_shaped.j3 k x3 x4 x23 x24 x25 x313000 x316000 x316001 x316002 x316003)
end
def tree_shaped.f (k : Nat) (l0_0 : List (S47)) : Option (Bool) := if (l0_0.length : Int) = 0 then (tree_shaped.j0 k true l0_0) else (if 0 < (l0_0.length : Int) then (tree_shaped.j0 k (((rd_T47 l0_0 0).f3) != (l0_0.length : Int)) l0_0) else (none))
set_option maxHeartbeats 8000000 in
set_option maxRecDepth 100000 in
theorem tree_shaped.calls (k : Nat) (A0_0 : Option Addr) (c0_0 : Nat) (l0_0 : List (S47)) (r : Bool) (w : World) (hr0_0 : Kd.C k47 w A0_0 l0_0.length l0_0) (hc0_0 : l0_0.length ≤ c0_0) (h : tree_shaped.f k l0_0 = some r) :
    Calls Try.prog 60 #[.agg #[.slice A0_0 l0_0.length c0_0]] w fun e w' => e = .returned (.bool r) ∧ Below w.heap.size w w' := by
  have hu25 := Try.underlying25
  have hu47 := Try.underlying47
  have HR0_0 := Aside0.mk hr0_0
  have HC0_0 := Aside0.mk hc0_0
  clear hr0_0 hc0_0
  have HB := Aside0.mk (Below.refl w.heap.size w)
  have H : (if (l0_0.length : Int) = 0 then (tree_shaped.j0 k true l0_0) else (if 0 < (l0_0.length : Int) then (tree_shaped.j0 k (((rd_T47 l0_0 0).f3) != (l0_0.length : Int)) l0_0) else (none))) = some r := h
  clear h
  have HC2 := Aside0.mk H
  clear H
  go_enter Try.func60, Try.ntmps60
  go_upto_region 1 with (first | ((with_reducible refine gate_dst (N := 1) rfl ?_); (try (refine gate_guard (by rfl) ?_; dsimp only)); refine box_event ?hg (N := 1) ?hd (cs := #[.slice A0_0 l0_0.length c0_0]) (t := 25) ?hr ?_; (case hd => rfl); (case hg => rfl); (case hr => first | (go_simp; done) | (go_simp; rfl)); intro gb312 hg w3 hbox hb; have n0_ := Aside0.mk (below_step (by repeat (first | (with_reducible first | exact HB.out | apply below_alloc | apply pw_below_drewN | apply below_drew1) | exact HB.out)) hb); have n1_ := Aside0.mk (hbox); have n2_ := Aside0.mk ((by rw [hg]; exact (below_size (by repeat (first | (with_reducible first | exact HB.out | apply below_alloc | apply pw_below_drewN | apply below_drew1) | exact HB.out))) : w.heap.size ≤ gb312)); have n3_ := Aside0.mk ((by rw [hg]; exact (below_size (by repeat (first | (with_reducible first | exact HB.out | apply below_alloc | apply pw_below_drewN | apply below_drew1) | exact HB.out))) : w.heap.size ≤ gb312)); clear HB; have HB := n0_; have BK312 := n1_; have GW312 := n2_; have GE312 := n3_; clear n0_ n1_ n2_ n3_; clear hb hbox hg))
  repeat (go_quiet (first | ((with_reducible refine gate_dst (N := 1) rfl ?_); (try (refine gate_guard (by rfl) ?_; dsimp only)); refine box_event ?hg (N := 1) ?hd (cs := #[.slice A0_0 l0_0.length c0_0]) (t := 25) ?hr ?_; (case hd => rfl); (case hg => rfl); (case hr => first | (go_simp; done) | (go_simp; rfl)); intro gb312 hg w3 hbox hb; have n0_ := Aside0.mk (below_step (by repeat (first | (with_reducible first | exact HB.out | apply below_alloc | apply pw_below_drewN | apply below_drew1) | exact HB.out)) hb); have n1_ := Aside0.mk (hbox); have n2_ := Aside0.mk ((by rw [hg]; exact (below_size (by repeat (first | (with_reducible first | exact HB.out | apply below_alloc | apply pw_below_drewN | apply below_drew1) | exact HB.out))) : w.heap.size ≤ gb312)); have n3_ := Aside0.mk ((by rw [hg]; exact (below_size (by repeat (first | (with_reducible first | exact HB.out | apply below_alloc | apply pw_below_drewN | apply below_drew1) | exact HB.out))) : w.heap.size ≤ gb312)); clear HB; have HB := n0_; have BK312 := n1_; have GW312 := n2_; have GE312 := n3_; clear n0_ n1_ n2_ n3_; clear hb hbox hg)); go_upto_region 1 with (first | ((with_reducible refine gate_dst (N := 1) rfl ?_); (try (refine gate_guard (by rfl) ?_; dsimp only)); refine box_event ?hg (N := 1) ?hd (cs := #[.slice A0_0 l0_0.length c0_0]) (t := 25) ?hr ?_; (case hd => rfl); (case hg => rfl); (case hr => first | (go_simp; done) | (go_simp; rfl)); intro gb312 hg w3 hbox hb; have n0_ := Aside0.mk (below_step (by repeat (first | (with_reducible first | exact HB.out | apply below_alloc | apply pw_below_drewN | apply below_drew1) | exact HB.out)) hb); have n1_ := Aside0.mk (hbox); have n2_ := Aside0.mk ((by rw [hg]; exact (below_size (by repeat (first | (with_reducible first | exact HB.out | apply below_alloc | apply pw_below_drewN | apply below_drew1) | exact HB.out))) : w.heap.size ≤ gb312)); have n3_ := Aside0.mk ((by rw [hg]; exact (below_size (by repeat (first | (with_reducible first | exact HB.out | apply below_alloc | apply pw_below_drewN | apply below_drew1) | exact HB.out))) : w.heap.size ≤ gb312)); clear HB; have HB := n0_; have BK312 := n1_; have GW312 := n2_; have GE312 := n3_; clear n0_ n1_ n2_ n3_; clear hb hbox hg)))
  (try simp only [Act.put, List.setIfInBounds_toArray, List.set_cons_zero, List.set_cons_succ])
  go_cut [21] (fun v21 wc => ∃ (kq : Nat) (x21_1 : Bool), v21 = .bool x21_1 ∧ Aside0 (tree_shaped.j0 kq x21_1 l0_0 = some r) ∧ Aside0 (kq ≤ k) ∧ Aside0 (wc.heap[gb312]? = some (.cells #[(.slice A0_0 l0_0.length c0_0)] 25 (0, 0))) ∧ Aside0 (Below w.heap.size w wc))
  case first =>
    have H := HC2.out
    clear HC2
    by_cases c4 : (l0_0.length : Int) = 0
    · rw [if_pos c4] at H
      have c4b0 : ((l0_0.length : Int) == 0) = true := beq_iff_eq.mpr c4
      have c4b1 : ((l0_0.length : Int) != 0) = false := bne_eq_false_iff_eq.mpr c4
      clear c4
      (first | rw [c4b0] | (simp only [i64_w, i32_w]; rw [c4b0]) | skip)
      have H' := Aside0.mk H
      clear H
      have hcz5_0 : w3.cell? ⟨gb312, 0, none⟩ = some (.slice A0_0 l0_0.length c0_0) := (blk_cell BK312.out 0).trans rfl
      have hfz5_0 := blk_frozen BK312.out 0
      go_wp2
      repeat (go_quiet (fail); try go_wp2)
      go_meet
      case rel => exact ⟨_, (true), (by first | rfl | (simp; done) | (simp [*]; done)), H', ⟨by first | omega | exact Nat.le_refl _⟩, ⟨by (with_reducible repeat (first | refine blk_drewN ?_ _ | refine blk_drew ?_ | refine blk_alloc ?_ _)); exact BK312.out⟩, ⟨by repeat (first | (with_reducible first | exact HB.out | apply below_alloc | apply pw_below_drewN | apply below_drew1 | refine below_set ?_ GE312.out) | exact HB.out)⟩⟩
    · rw [if_neg c4] at H
      have c4b0 : ((l0_0.length : Int) == 0) = false := beq_eq_false_iff_ne.mpr c4
      have c4b1 : ((l0_0.length : Int) != 0) = true := bne_iff_ne.mpr c4
      have c4b2 : ¬ (l0_0 = []) := fun h_ => c4 (by rw [h_]; rfl)
      (first | rw [c4b0] | (simp only [i64_w, i32_w]; rw [c4b0]) | skip)
      by_cases c6 : 0 < (l0_0.length : Int)
      · rw [if_pos c6] at H
        have c6b0 : decide (0 < (l0_0.length : Int)) = true := decide_eq_true c6
        have c6b1 : decide (0 < l0_0.length) = true := decide_eq_true (by omega)
        clear c6
        have H' := Aside0.mk H
        clear H
        have hcz7_0 : w3.cell? ⟨gb312, 0, none⟩ = some (.slice A0_0 l0_0.length c0_0) := (blk_cell BK312.out 0).trans rfl
        have hfz7_0 := blk_frozen BK312.out 0
        have p313 : 0 ≤ (0 : Int) := (by omega)
        have q313 : 0 < (l0_0.length : Int) := of_decide_eq_true (by first | (with_reducible assumption) | assumption)
        obtain ⟨ad313, e313, hx313_0, hx313_1, hx313_2, hx313_3⟩ := at_T47 HR0_0.out 0 p313 q313
        cases e313
        have qi313 : (0 < l0_0.length) = True := eq_true (by omega)
        (try rw [show ((0 : Int)).toNat = 0 from rfl] at hx313_0)
        (try rw [show 0 * 4 = 0 from rfl] at hx313_0)
        (try rw [Addr.add_zero'] at hx313_0)
        (try rw [show ((0 : Int)).toNat = 0 from rfl] at hx313_1)
        (try rw [show 0 * 4 = 0 from rfl] at hx313_1)
        (try rw [Addr.add_zero'] at hx313_1)
        (try rw [show ((0 : Int)).toNat = 0 from rfl] at hx313_2)
        (try rw [show 0 * 4 = 0 from rfl] at hx313_2)
        (try rw [Addr.add_zero'] at hx313_2)
        (try rw [show ((0 : Int)).toNat = 0 from rfl] at hx313_3)
        (try rw [show 0 * 4 = 0 from rfl] at hx313_3)
        (try rw [Addr.add_zero'] at hx313_3)
        replace hx313_0 := (HB.out.cell (World.block_lt_of_cell? w _ hx313_0)).trans hx313_0
        replace hx313_1 := (HB.out.cell (World.block_lt_of_cell? w _ hx313_1)).trans hx313_1
        replace hx313_2 := (HB.out.cell (World.block_lt_of_cell? w _ hx313_2)).trans hx313_2
        replace hx313_3 := (HB.out.cell (World.block_lt_of_cell? w _ hx313_3)).trans hx313_3
        replace p313 := eq_true p313
        replace q313 := eq_true q313
        go_wp2
        repeat (go_quiet (fail); try go_wp2)
        go_meet
        case rel => exact ⟨_, ((((rd_T47 l0_0 0).f3) != (l0_0.length : Int))), (by first | rfl | (simp; done) | (simp [*]; done)), H', ⟨by first | omega | exact Nat.le_refl _⟩, ⟨by (with_reducible repeat (first | refine blk_drewN ?_ _ | refine blk_drew ?_ | refine blk_alloc ?_ _)); exact BK312.out⟩, ⟨by repeat (first | (with_reducible first | exact HB.out | apply below_alloc | apply pw_below_drewN | apply below_drew1 | refine below_set ?_ GE312.out) | exact HB.out)⟩⟩
      · rw [if_neg c6] at H
        exact absurd H (by simp)
  case rest =>
    clear HC2
    try clear p2
    try clear p3
    try clear q3
    try clear hx3
    try clear qi3
    try clear c4
    try clear c4b0
    try clear c4b1
    try clear c4b2
    try clear c6
    try clear c6b0
    try clear c6b1
    try clear hcz5_0
    try clear hcz7_0
    try clear hfz5_0
    try clear hfz7_0
    try clear hx313_0
    try clear hx313_1
    try clear hx313_2
    try clear hx313_3
    try clear p313
    try clear q313
    obtain ⟨kq, x21_1, rfl, HA, HJ1, BK312, HB⟩ := hcut
    cases kq with
    | zero => exact absurd HA.out (by simp [tree_shaped.j0])
    | succ kj1 =>
      have H := HA.out
      clear HA
      simp only [tree_shaped.j0] at H
      by_cases c8 : x21_1 = true
      · subst c8
        have H1 : (some false) = some r := by rw [if_pos rfl] at H; exact H
        clear H
        have H := H1
        clear H1
        obtain rfl := Option.some.inj H
        go_wp2
        repeat (go_quiet (fail); try go_wp2)
        go_ret
        exact ⟨by first | rfl | (simp [errW_none, errW_some] <;> rfl) | (simp [*, errW_none, errW_some] <;> rfl), by repeat (first | (with_reducible first | exact HB.out | apply below_alloc | apply pw_below_drewN | apply below_drew1 | refine below_set ?_ GE312.out) | exact HB.out)⟩
      · replace c8 := Bool.eq_false_iff.mpr c8
        subst c8
        have H1 : (tree_shaped.l0 kj1 ([] : List Int) l0_0 (l0_0.length : Int) 0 l0_0) = some r := by rw [if_neg (show ¬ (false = true) by decide)] at H; exact H
        clear H
        have H := H1
        clear H1
        have H' := Aside0.mk H
        clear H
        have hcz9_0 : wc.cell? ⟨gb312, 0, none⟩ = some (.slice A0_0 l0_0.length c0_0) := (blk_cell BK312.out 0).trans rfl
        have hfz9_0 := blk_frozen BK312.out 0
        go_wp2
        repeat (go_quiet (fail); try go_wp2)
        go_loopg [3, 25] kj1 (fun kq v3 v25 w' => ∃ (x3_2 : List Int) (x25_2 : Int), v25 = .int .i64 x25_2 ∧ Aside0 (tree_shaped.l0 kq x3_2 l0_0 (l0_0.length : Int) x25_2 l0_0 = some r) ∧ Aside0 (kq ≤ kj1) ∧ Aside0 (Kd.R (Kd.int .i64) 3 w' w.heap.size (fun _ => True) v3 x3_2) ∧ Aside0 (w'.heap[gb312]? = some (.cells #[(.slice A0_0 l0_0.length c0_0)] 25 (0, 0))) ∧ Aside0 (Below w.heap.size w w'))
        case atStart => exact ⟨(([] : List Int)), (0), (by first | rfl | (simp; done) | (simp [*]; done)), H', ⟨Nat.le_refl _⟩, ⟨by first | exact Kd.R_nil _ _ _ _ _ | exact Kd.N_nil _ _ _ _ _ | exact Kd.V_nil _ _ _ _ _ | exact Kd.Q_nil _ _ _ _ _ | exact Kd.S_nil _ _ _ _ _⟩, ⟨by (with_reducible repeat (first | refine blk_drewN ?_ _ | refine blk_drew ?_ | refine blk_alloc ?_ _)); exact BK312.out⟩, ⟨by repeat (first | (with_reducible first | exact HB.out | apply below_alloc | apply pw_below_drewN | apply below_drew1 | refine below_set ?_ GE312.out) | exact HB.out)⟩⟩
        case round =>
          clear H'
          try clear p2
          try clear p3
          try clear q3
          try clear hx3
          try clear qi3
          try clear c4
          try clear c4b0
          try clear c4b1
          try clear c4b2
          try clear c6
          try clear c6b0
          try clear c6b1
          try clear c8
          try clear hcz5_0
          try clear hcz7_0
          try clear hcz9_0
          try clear hfz5_0
          try clear hfz7_0
          try clear hfz9_0
          try clear hx313_0
          try clear hx313_1
          try clear hx313_2
          try clear hx313_3
          try clear p2
          try clear p3
          try clear p313
          try clear q3
          try clear q313
          obtain ⟨x3_2, x25_2, rfl, HA, HK2, HO_3, BK312, HB⟩ := hrel
          cases gk with
          | zero => exact absurd HA.out (by simp [tree_shaped.l0])
          | succ k2 =>
            have H := HA.out
            clear HA
            simp only [tree_shaped.l0] at H
            by_cases c10 : x25_2 < (l0_0.length : Int)
            · rw [if_pos c10] at H
              have c10b0 : decide (x25_2 < (l0_0.length : Int)) = true := decide_eq_true c10
              clear c10
              by_cases c11 : 0 ≤ x25_2
              · rw [if_pos c11] at H
                have c11b0 : decide (0 ≤ x25_2) = true := decide_eq_true c11
                clear c11
                by_cases c12 : x25_2 < (l0_0.length : Int)
                · rw [if_pos c12] at H
                  have c12b0 : decide (x25_2 < (l0_0.length : Int)) = true := decide_eq_true c12
                  clear c12
                  have HC13 := Aside0.mk H
                  clear H
                  have p314 : 0 ≤ (x25_2 : Int) := of_decide_eq_true (by first | (with_reducible assumption) | assumption)
                  have q314 : x25_2 < (l0_0.length : Int) := of_decide_eq_true (by first | (with_reducible assumption) | assumption)
                  obtain ⟨ad314, e314, hx314_0, hx314_1, hx314_2, hx314_3⟩ := at_T47 HR0_0.out x25_2 p314 q314
                  cases e314
                  replace hx314_0 := (HB.out.cell (World.block_lt_of_cell? w _ hx314_0)).trans hx314_0
                  replace hx314_1 := (HB.out.cell (World.block_lt_of_cell? w _ hx314_1)).trans hx314_1
                  replace hx314_2 := (HB.out.cell (World.block_lt_of_cell? w _ hx314_2)).trans hx314_2
                  replace hx314_3 := (HB.out.cell (World.block_lt_of_cell? w _ hx314_3)).trans hx314_3
                  replace p314 := eq_true p314
                  replace q314 := eq_true q314
                  go_upto_block 2 with (first | ((with_reducible refine gate_dst (N := 5) rfl ?_); (try (refine gate_guard (by rfl) ?_; dsimp only)); refine box_event ?hg (N := 5) ?hd (cs := #[.int .u8 0, .int .i64 0, .int .i64 0, .int .i64 0]) (t := 47) ?hr ?_; (case hd => rfl); (case hg => rfl); (case hr => first | (go_simp; done) | (go_simp; rfl)); intro gb315 hg w14 hbox hb; have n0_ := Aside0.mk (Kd.R_below (by (with_reducible repeat (first | apply Kd.R_alloc | apply Kd.R_drewN | apply Kd.R_drew)); exact HO_3.out) hb); have n1_ := Aside0.mk (blk_below (g := gb312) (o := .cells #[.slice (some ad314) l0_0.length c0_0] 25 (0, 0)) (by (with_reducible repeat (first | refine blk_drewN ?_ _ | refine blk_drew ?_ | refine blk_alloc ?_ _)); exact BK312.out) hb); have n2_ := Aside0.mk (below_step (by repeat (first | (with_reducible first | exact HB.out | apply below_alloc | apply pw_below_drewN | apply below_drew1 | refine below_set ?_ GE312.out) | exact HB.out)) hb); have n3_ := Aside0.mk (hbox); have n4_ := Aside0.mk ((by rw [hg]; exact (below_size (by repeat (first | (with_reducible first | exact HB.out | apply below_alloc | apply pw_below_drewN | apply below_drew1 | refine below_set ?_ GE312.out) | exact HB.out))) : w.heap.size ≤ gb315)); have n5_ := Aside0.mk ((by rw [hg]; exact (below_size (by repeat (first | (with_reducible first | exact HB.out | apply below_alloc | apply pw_below_drewN | apply below_drew1 | refine below_set ?_ GE312.out) | exact HB.out))) : w.heap.size ≤ gb315)); have n6_ := Aside0.mk ((by rw [hg]; exact Nat.ne_of_lt (blk_lt (g := gb312) (o := .cells #[.slice (some ad314) l0_0.length c0_0] 25 (0, 0)) (by (with_reducible repeat (first | refine blk_drewN ?_ _ | refine blk_drew ?_ | refine blk_alloc ?_ _)); exact BK312.out)) : gb312 ≠ gb315)); have n7_ := Aside0.mk ((by rw [hg]; exact Nat.ne_of_gt (blk_lt (g := gb312) (o := .cells #[.slice (some ad314) l0_0.length c0_0] 25 (0, 0)) (by (with_reducible repeat (first | refine blk_drewN ?_ _ | refine blk_drew ?_ | refine blk_alloc ?_ _)); exact BK312.out)) : gb315 ≠ gb312)); clear HO_3; clear BK312; clear HB; have HO_3 := n0_; have BK312 := n1_; have HB := n2_; have BK315 := n3_; have GW315 := n4_; have GE315 := n5_; have NB312_315 := n6_; have NB315_312 := n7_; clear n0_ n1_ n2_ n3_ n4_ n5_ n6_ n7_; clear hb hbox hg; have hnb15 := NB315_312.out; have hnc15 := NB312_315.out; have hcz16_0 : w14.cell? ⟨gb315, 0, none⟩ = some (.int .u8 0) := (blk_cell BK315.out 0).trans rfl; have hcz16_1 : w14.cell? ⟨gb315, 1, none⟩ = some (.int .i64 0) := (blk_cell BK315.out 1).trans rfl; have hcz16_2 : w14.cell? ⟨gb315, 2, none⟩ = some (.int .i64 0) := (blk_cell BK315.out 2).trans rfl; have hcz16_3 : w14.cell? ⟨gb315, 3, none⟩ = some (.int .i64 0) := (blk_cell BK315.out 3).trans rfl; have hfz16_0 := blk_frozen BK315.out 0; have hfz16_1 := blk_frozen BK315.out 1; have hfz16_2 := blk_frozen BK315.out 2; have hfz16_3 := blk_frozen BK315.out 3))
                  repeat (go_quiet (first | ((with_reducible refine gate_dst (N := 5) rfl ?_); (try (refine gate_guard (by rfl) ?_; dsimp only)); refine box_event ?hg (N := 5) ?hd (cs := #[.int .u8 0, .int .i64 0, .int .i64 0, .int .i64 0]) (t := 47) ?hr ?_; (case hd => rfl); (case hg => rfl); (case hr => first | (go_simp; done) | (go_simp; rfl)); intro gb315 hg w14 hbox hb; have n0_ := Aside0.mk (Kd.R_below (by (with_reducible repeat (first | apply Kd.R_alloc | apply Kd.R_drewN | apply Kd.R_drew)); exact HO_3.out) hb); have n1_ := Aside0.mk (blk_below (g := gb312) (o := .cells #[.slice (some ad314) l0_0.length c0_0] 25 (0, 0)) (by (with_reducible repeat (first | refine blk_drewN ?_ _ | refine blk_drew ?_ | refine blk_alloc ?_ _)); exact BK312.out) hb); have n2_ := Aside0.mk (below_step (by repeat (first | (with_reducible first | exact HB.out | apply below_alloc | apply pw_below_drewN | apply below_drew1 | refine below_set ?_ GE312.out) | exact HB.out)) hb); have n3_ := Aside0.mk (hbox); have n4_ := Aside0.mk ((by rw [hg]; exact (below_size (by repeat (first | (with_reducible first | exact HB.out | apply below_alloc | apply pw_below_drewN | apply below_drew1 | refine below_set ?_ GE312.out) | exact HB.out))) : w.heap.size ≤ gb315)); have n5_ := Aside0.mk ((by rw [hg]; exact (below_size (by repeat (first | (with_reducible first | exact HB.out | apply below_alloc | apply pw_below_drewN | apply below_drew1 | refine below_set ?_ GE312.out) | exact HB.out))) : w.heap.size ≤ gb315)); have n6_ := Aside0.mk ((by rw [hg]; exact Nat.ne_of_lt (blk_lt (g := gb312) (o := .cells #[.slice (some ad314) l0_0.length c0_0] 25 (0, 0)) (by (with_reducible repeat (first | refine blk_drewN ?_ _ | refine blk_drew ?_ | refine blk_alloc ?_ _)); exact BK312.out)) : gb312 ≠ gb315)); have n7_ := Aside0.mk ((by rw [hg]; exact Nat.ne_of_gt (blk_lt (g := gb312) (o := .cells #[.slice (some ad314) l0_0.length c0_0] 25 (0, 0)) (by (with_reducible repeat (first | refine blk_drewN ?_ _ | refine blk_drew ?_ | refine blk_alloc ?_ _)); exact BK312.out)) : gb315 ≠ gb312)); clear HO_3; clear BK312; clear HB; have HO_3 := n0_; have BK312 := n1_; have HB := n2_; have BK315 := n3_; have GW315 := n4_; have GE315 := n5_; have NB312_315 := n6_; have NB315_312 := n7_; clear n0_ n1_ n2_ n3_ n4_ n5_ n6_ n7_; clear hb hbox hg; have hnb15 := NB315_312.out; have hnc15 := NB312_315.out; have hcz16_0 : w14.cell? ⟨gb315, 0, none⟩ = some (.int .u8 0) := (blk_cell BK315.out 0).trans rfl; have hcz16_1 : w14.cell? ⟨gb315, 1, none⟩ = some (.int .i64 0) := (blk_cell BK315.out 1).trans rfl; have hcz16_2 : w14.cell? ⟨gb315, 2, none⟩ = some (.int .i64 0) := (blk_cell BK315.out 2).trans rfl; have hcz16_3 : w14.cell? ⟨gb315, 3, none⟩ = some (.int .i64 0) := (blk_cell BK315.out 3).trans rfl; have hfz16_0 := blk_frozen BK315.out 0; have hfz16_1 := blk_frozen BK315.out 1; have hfz16_2 := blk_frozen BK315.out 2; have hfz16_3 := blk_frozen BK315.out 3)); go_upto_block 2 with (first | ((with_reducible refine gate_dst (N := 5) rfl ?_); (try (refine gate_guard (by rfl) ?_; dsimp only)); refine box_event ?hg (N := 5) ?hd (cs := #[.int .u8 0, .int .i64 0, .int .i64 0, .int .i64 0]) (t := 47) ?hr ?_; (case hd => rfl); (case hg => rfl); (case hr => first | (go_simp; done) | (go_simp; rfl)); intro gb315 hg w14 hbox hb; have n0_ := Aside0.mk (Kd.R_below (by (with_reducible repeat (first | apply Kd.R_alloc | apply Kd.R_drewN | apply Kd.R_drew)); exact HO_3.out) hb); have n1_ := Aside0.mk (blk_below (g := gb312) (o := .cells #[.slice (some ad314) l0_0.length c0_0] 25 (0, 0)) (by (with_reducible repeat (first | refine blk_drewN ?_ _ | refine blk_drew ?_ | refine blk_alloc ?_ _)); exact BK312.out) hb); have n2_ := Aside0.mk (below_step (by repeat (first | (with_reducible first | exact HB.out | apply below_alloc | apply pw_below_drewN | apply below_drew1 | refine below_set ?_ GE312.out) | exact HB.out)) hb); have n3_ := Aside0.mk (hbox); have n4_ := Aside0.mk ((by rw [hg]; exact (below_size (by repeat (first | (with_reducible first | exact HB.out | apply below_alloc | apply pw_below_drewN | apply below_drew1 | refine below_set ?_ GE312.out) | exact HB.out))) : w.heap.size ≤ gb315)); have n5_ := Aside0.mk ((by rw [hg]; exact (below_size (by repeat (first | (with_reducible first | exact HB.out | apply below_alloc | apply pw_below_drewN | apply below_drew1 | refine below_set ?_ GE312.out) | exact HB.out))) : w.heap.size ≤ gb315)); have n6_ := Aside0.mk ((by rw [hg]; exact Nat.ne_of_lt (blk_lt (g := gb312) (o := .cells #[.slice (some ad314) l0_0.length c0_0] 25 (0, 0)) (by (with_reducible repeat (first | refine blk_drewN ?_ _ | refine blk_drew ?_ | refine blk_alloc ?_ _)); exact BK312.out)) : gb312 ≠ gb315)); have n7_ := Aside0.mk ((by rw [hg]; exact Nat.ne_of_gt (blk_lt (g := gb312) (o := .cells #[.slice (some ad314) l0_0.length c0_0] 25 (0, 0)) (by (with_reducible repeat (first | refine blk_drewN ?_ _ | refine blk_drew ?_ | refine blk_alloc ?_ _)); exact BK312.out)) : gb315 ≠ gb312)); clear HO_3; clear BK312; clear HB; have HO_3 := n0_; have BK312 := n1_; have HB := n2_; have BK315 := n3_; have GW315 := n4_; have GE315 := n5_; have NB312_315 := n6_; have NB315_312 := n7_; clear n0_ n1_ n2_ n3_ n4_ n5_ n6_ n7_; clear hb hbox hg; have hnb15 := NB315_312.out; have hnc15 := NB312_315.out; have hcz16_0 : w14.cell? ⟨gb315, 0, none⟩ = some (.int .u8 0) := (blk_cell BK315.out 0).trans rfl; have hcz16_1 : w14.cell? ⟨gb315, 1, none⟩ = some (.int .i64 0) := (blk_cell BK315.out 1).trans rfl; have hcz16_2 : w14.cell? ⟨gb315, 2, none⟩ = some (.int .i64 0) := (blk_cell BK315.out 2).trans rfl; have hcz16_3 : w14.cell? ⟨gb315, 3, none⟩ = some (.int .i64 0) := (blk_cell BK315.out 3).trans rfl; have hfz16_0 := blk_frozen BK315.out 0; have hfz16_1 := blk_frozen BK315.out 1; have hfz16_2 := blk_frozen BK315.out 2; have hfz16_3 := blk_frozen BK315.out 3)))
                  (try simp only [Act.put, List.setIfInBounds_toArray, List.set_cons_zero, List.set_cons_succ])
                  go_cut [3] (fun v3 wc => ∃ (kq : Nat) (x3_12 : List Int), Aside0 (tree_shaped.j3 kq x3_12 x25_2 l0_0 (l0_0.length : Int) x25_2 l0_0 ((rd_T47 l0_0 x25_2).f0) ((rd_T47 l0_0 x25_2).f1) ((rd_T47 l0_0 x25_2).f2) ((rd_T47 l0_0 x25_2).f3) = some r) ∧ Aside0 (kq ≤ k2) ∧ Aside0 (Kd.R (Kd.int .i64) 3 wc w.heap.size (fun _ => True) v3 x3_12) ∧ Aside0 (wc.heap[gb312]? = some (.cells #[(.slice (some ad314) l0_0.length c0_0)] 25 (0, 0))) ∧ Aside0 (wc.heap[gb315]? = some (.cells #[.int .u8 ((rd_T47 l0_0 x25_2).f0), .int .i64 ((rd_T47 l0_0 x25_2).f1), .int .i64 ((rd_T47 l0_0 x25_2).f2), .int .i64 ((rd_T47 l0_0 x25_2).f3)] 47 (0, 0))) ∧ Aside0 (Below w.heap.size w wc))
                  case first =>
                    have H := HC13.out
                    clear HC13
                    have H' := Aside0.mk H
                    clear H
                    go_wp2
                    repeat (go_quiet (fail); try go_wp2)
                    go_loopg [3] k2 (fun kq v3 w' => ∃ (x3_3 : List Int), Aside0 (tree_shaped.l1 kq x3_3 x25_2 l0_0 (l0_0.length : Int) x25_2 l0_0 ((rd_T47 l0_0 x25_2).f0) ((rd_T47 l0_0 x25_2).f1) ((rd_T47 l0_0 x25_2).f2) ((rd_T47 l0_0 x25_2).f3) = some r) ∧ Aside0 (kq ≤ k2) ∧ Aside0 (Kd.R (Kd.int .i64) 3 w' w.heap.size (fun _ => True) v3 x3_3) ∧ Aside0 (w'.heap[gb312]? = some (.cells #[(.slice (some ad314) l0_0.length c0_0)] 25 (0, 0))) ∧ Aside0 (w'.heap[gb315]? = some (.cells #[.int .u8 ((rd_T47 l0_0 x25_2).f0), .int .i64 ((rd_T47 l0_0 x25_2).f1), .int .i64 ((rd_T47 l0_0 x25_2).f2), .int .i64 ((rd_T47 l0_0 x25_2).f3)] 47 (0, 0))) ∧ Aside0 (Below w.heap.size w w'))
                    case atStart => exact ⟨(x3_2), H', ⟨Nat.le_refl _⟩, ⟨by (with_reducible repeat (first | apply Kd.R_alloc | apply Kd.R_drewN | apply Kd.R_drew)); exact Kd.R_mono (Kd.R_far (p := ⟨gb315, 3, none⟩) (Kd.R_far (p := ⟨gb315, 2, none⟩) (Kd.R_far (p := ⟨gb315, 1, none⟩) (Kd.R_far (p := ⟨gb315, 0, none⟩) (Kd.R_types HO_3.out BK315.out (by decide)) (fun _ hk => hk.2) (.int .u8 ((rd_T47 l0_0 x25_2).f0))) (fun _ hk => hk.2) (.int .i64 ((rd_T47 l0_0 x25_2).f1))) (fun _ hk => hk.2) (.int .i64 ((rd_T47 l0_0 x25_2).f2))) (fun _ hk => hk.2) (.int .i64 ((rd_T47 l0_0 x25_2).f3))) (fun _ hk => trivial)⟩, ⟨by (with_reducible repeat (first | refine blk_drewN ?_ _ | refine blk_drew ?_ | refine blk_alloc ?_ _)); refine blk_far ?_ NB312_315.out _; (with_reducible repeat (first | refine blk_drewN ?_ _ | refine blk_drew ?_ | refine blk_alloc ?_ _)); refine blk_far ?_ NB312_315.out _; (with_reducible repeat (first | refine blk_drewN ?_ _ | refine blk_drew ?_ | refine blk_alloc ?_ _)); refine blk_far ?_ NB312_315.out _; (with_reducible repeat (first | refine blk_drewN ?_ _ | refine blk_drew ?_ | refine blk_alloc ?_ _)); refine blk_far ?_ NB312_315.out _; (with_reducible repeat (first | refine blk_drewN ?_ _ | refine blk_drew ?_ | refine blk_alloc ?_ _)); exact BK312.out⟩, ⟨by (with_reducible repeat (first | refine blk_drewN ?_ _ | refine blk_drew ?_ | refine blk_alloc ?_ _)); refine blk_put (cs := #[.int .u8 ((rd_T47 l0_0 x25_2).f0), .int .i64 ((rd_T47 l0_0 x25_2).f1), .int .i64 ((rd_T47 l0_0 x25_2).f2), .int .i64 0]) ?_ 3 _ rfl; (with_reducible repeat (first | refine blk_drewN ?_ _ | refine blk_drew ?_ | refine blk_alloc ?_ _)); refine blk_put (cs := #[.int .u8 ((rd_T47 l0_0 x25_2).f0), .int .i64 ((rd_T47 l0_0 x25_2).f1), .int .i64 0, .int .i64 0]) ?_ 2 _ rfl; (with_reducible repeat (first | refine blk_drewN ?_ _ | refine blk_drew ?_ | refine blk_alloc ?_ _)); refine blk_put (cs := #[.int .u8 ((rd_T47 l0_0 x25_2).f0), .int .i64 0, .int .i64 0, .int .i64 0]) ?_ 1 _ rfl; (with_reducible repeat (first | refine blk_drewN ?_ _ | refine blk_drew ?_ | refine blk_alloc ?_ _)); refine blk_put (cs := #[.int .u8 0, .int .i64 0, .int .i64 0, .int .i64 0]) ?_ 0 _ rfl; (with_reducible repeat (first | refine blk_drewN ?_ _ | refine blk_drew ?_ | refine blk_alloc ?_ _)); exact BK315.out⟩, ⟨by repeat (first | (with_reducible first | exact HB.out | apply below_alloc | apply pw_below_drewN | apply below_drew1 | refine below_set ?_ GE312.out | refine below_set ?_ GE315.out) | exact HB.out)⟩⟩
                    case round =>
                      clear H'
                      try clear c1
                      try clear p2
                      try clear p3
                      try clear q3
                      try clear hx3
                      try clear qi3
                      try clear c4
                      try clear c4b0
                      try clear c4b1
                      try clear c4b2
                      try clear c6
                      try clear c6b0
                      try clear c6b1
                      try clear c8
                      try clear c10
                      try clear c10b0
                      try clear c11
                      try clear c11b0
                      try clear c12
                      try clear c12b0
                      try clear c15
                      try clear hcz16_0
                      try clear hcz16_1
                      try clear hcz16_2
                      try clear hcz16_3
                      try clear hcz5_0
                      try clear hcz7_0
                      try clear hcz9_0
                      try clear hfz16_0
                      try clear hfz16_1
                      try clear hfz16_2
                      try clear hfz16_3
                      try clear hfz5_0
                      try clear hfz7_0
                      try clear hfz9_0
                      try clear hx313_0
                      try clear hx313_1
                      try clear hx313_2
                      try clear hx313_3
                      try clear hx314_0
                      try clear hx314_1
                      try clear hx314_2
                      try clear hx314_3
                      try clear p2
                      try clear p3
                      try clear p313
                      try clear p314
                      try clear q3
                      try clear q313
                      try clear q314
                      obtain ⟨x3_3, HA, HK3, HO_3, BK312, BK315, HB⟩ := hrel
                      cases gk with
                      | zero => exact absurd HA.out (by simp [tree_shaped.l1])
                      | succ k3 =>
                        have H := HA.out
                        clear HA
                        simp only [tree_shaped.l1] at H
                        by_cases c17 : (x3_3.length : Int) > 0
                        · rw [if_pos c17] at H
                          have c17b0 : decide (0 < (x3_3.length : Int)) = true := decide_eq_true c17
                          have c17b1 : decide (0 < x3_3.length) = true := decide_eq_true (by omega)
                          clear c17
                          (first | rw [c17b0] | (simp only [i64_w, i32_w]; rw [c17b0]) | skip)
                          obtain ⟨ji18, hji18⟩ : ∃ j_ : Int, (wrap64 ((x3_3.length : Int) - 1)) = j_ := ⟨_, rfl⟩
                          replace H : (if 0 ≤ (ji18) then (if (ji18) < (x3_3.length : Int) then (if (rd x3_3 (ji18)) = x25_2 then (if (ji18) ≤ (x3_3.length : Int) then (tree_shaped.l1 k3 (x3_3.take ((ji18) : Int).toNat) x25_2 l0_0 (l0_0.length : Int) x25_2 l0_0 ((rd_T47 l0_0 x25_2).f0) ((rd_T47 l0_0 x25_2).f1) ((rd_T47 l0_0 x25_2).f2) ((rd_T47 l0_0 x25_2).f3)) else (none)) else (tree_shaped.j3 k3 x3_3 x25_2 l0_0 (l0_0.length : Int) x25_2 l0_0 ((rd_T47 l0_0 x25_2).f0) ((rd_T47 l0_0 x25_2).f1) ((rd_T47 l0_0 x25_2).f2) ((rd_T47 l0_0 x25_2).f3))) else (none)) else (none)) = some r := by first | (rw [hji18] at H; exact H) | (simp only [hji18] at H ⊢; exact H)
                          have hji18w : (IntKind.i64.wrap ((x3_3.length : Int) - 1)) = ji18 := (i64_w _).trans hji18
                          by_cases c19 : 0 ≤ (ji18)
                          · rw [if_pos c19] at H
                            have c19b0 : decide (0 ≤ (ji18)) = true := decide_eq_true c19
                            clear c19
                            by_cases c20 : (ji18) < (x3_3.length : Int)
                            · rw [if_pos c20] at H
                              have c20b0 : decide ((ji18) < (x3_3.length : Int)) = true := decide_eq_true c20
                              clear c20
                              by_cases c21 : (rd x3_3 (ji18)) = x25_2
                              · rw [if_pos c21] at H
                                have c21b0 : ((rd x3_3 (ji18)) == x25_2) = true := beq_iff_eq.mpr c21
                                have c21b1 : ((rd x3_3 (ji18)) != x25_2) = false := bne_eq_false_iff_eq.mpr c21
                                clear c21
                                by_cases c22 : (ji18) ≤ (x3_3.length : Int)
                                · rw [if_pos c22] at H
                                  have c22b0 := eq_true c22
                                  have c22b1 : decide ((ji18) ≤ (x3_3.length : Int)) = true := decide_eq_true c22
                                  clear c22
                                  obtain ⟨y317, hy317⟩ : ∃ y_ : List Int, y_ = (x3_3.take ((ji18) : Int).toNat) := ⟨_, rfl⟩
                                  replace H : (tree_shaped.l1 k3 y317 x25_2 l0_0 (l0_0.length : Int) x25_2 l0_0 ((rd_T47 l0_0 x25_2).f0) ((rd_T47 l0_0 x25_2).f1) ((rd_T47 l0_0 x25_2).f2) ((rd_T47 l0_0 x25_2).f3)) = some r := by first | (rw [hy317]; with_reducible exact H) | (have H2_ := (Option.bind_some _ _).symm.trans H; rw [hy317]; with_reducible exact H2_) | (have H2_ := (Option.bind_some _ _).symm.trans H; with_reducible exact H2_) | with_reducible exact H | (rw [hy317]; exact H) | exact H
                                  have Ny317 := Aside0.mk hy317
                                  clear hy317
                                  have H' := Aside0.mk H
                                  clear H
                                  obtain ⟨Ao23, co23, eo23⟩ := Kd.R_slice HO_3.out
                                  subst eo23
                                  have p316 : 0 ≤ ((ji18) : Int) := of_decide_eq_true (by first | (with_reducible assumption) | assumption)
                                  have q316 : (ji18) < (x3_3.length : Int) := of_decide_eq_true (by first | (with_reducible assumption) | assumption)
                                  obtain ⟨ad316, e316, hx316_0⟩ := Kd.at_int (Kd.R_reads' HO_3.out).2.2 (ji18) p316 q316
                                  cases e316
                                  replace p316 := eq_true p316
                                  replace q316 := eq_true q316
                                  have q24 : ((ji18) : Int) ≤ ((x3_3.length : Int) : Int) := of_decide_eq_true (by first | (with_reducible assumption) | assumption)
                                  obtain ⟨i024, hi024, _, hsz24, _⟩ := info_parts info3
                                  have hcut24 := cut_to (P := Try.prog) 33 3 .i64 Try.underlying33 hi024 (some ad316) x3_3.length co23 (ji18) (of_decide_eq_true (by first | (with_reducible assumption) | assumption)) q24 (Kd.R_reads' HO_3.out).2.1
                                  have hr24 := Kd.R_take (m := ((ji18) : Int).toNat) HO_3.out (by omega)
                                  have hy24 : y317.length = ((ji18) : Int).toNat := (by rw [Ny317.out, List.length_take]; omega)
                                  rw [← Ny317.out] at hr24
                                  rw [← hy24] at hr24 hcut24
                                  clear hy24 hi024 hsz24 HO_3
                                  have HO319 := Aside0.mk hr24
                                  clear hr24
                                  replace q24 := eq_true q24
                                  go_wp2
                                  repeat (go_quiet (fail); try go_wp2)
                                  go_roundg k3
                                  case measure => have := HJ1.out; have := HK2.out; have := HK3.out; omega
                                  case rel => exact ⟨(y317), H', ⟨by have := HJ1.out; have := HK2.out; have := HK3.out; omega⟩, ⟨by (with_reducible repeat (first | apply Kd.R_alloc | apply Kd.R_drewN | apply Kd.R_drew)); exact HO319.out⟩, ⟨by (with_reducible repeat (first | refine blk_drewN ?_ _ | refine blk_drew ?_ | refine blk_alloc ?_ _)); exact BK312.out⟩, ⟨by (with_reducible repeat (first | refine blk_drewN ?_ _ | refine blk_drew ?_ | refine blk_alloc ?_ _)); exact BK315.out⟩, ⟨by repeat (first | (with_reducible first | exact HB.out | apply below_alloc | apply pw_below_drewN | apply below_drew1 | refine below_set ?_ GE312.out | refine below_set ?_ GE315.out) | exact HB.out)⟩⟩
                                · rw [if_neg c22] at H
                                  exact absurd H (by simp)
                              · rw [if_neg c21] at H
                                have c21b0 : ((rd x3_3 (ji18)) == x25_2) = false := beq_eq_false_iff_ne.mpr c21
                                have c21b1 : ((rd x3_3 (ji18)) != x25_2) = true := bne_iff_ne.mpr c21
                                have H' := Aside0.mk H
                                clear H
                                obtain ⟨Ao25, co25, eo25⟩ := Kd.R_slice HO_3.out
                                subst eo25
                                have p316 : 0 ≤ ((ji18) : Int) := of_decide_eq_true (by first | (with_reducible assumption) | assumption)
                                have q316 : (ji18) < (x3_3.length : Int) := of_decide_eq_true (by first | (with_reducible assumption) | assumption)
                                obtain ⟨ad316, e316, hx316_0⟩ := Kd.at_int (Kd.R_reads' HO_3.out).2.2 (ji18) p316 q316
                                cases e316
                                replace p316 := eq_true p316
                                replace q316 := eq_true q316
                                go_wp2
                                repeat (go_quiet (fail); try go_wp2)
                                go_meet
                                case rel => exact ⟨_, (x3_3), H', ⟨by have := HJ1.out; have := HK2.out; have := HK3.out; first | omega | exact Nat.le_refl _⟩, ⟨by (with_reducible repeat (first | apply Kd.R_alloc | apply Kd.R_drewN | apply Kd.R_drew)); exact HO_3.out⟩, ⟨by (with_reducible repeat (first | refine blk_drewN ?_ _ | refine blk_drew ?_ | refine blk_alloc ?_ _)); exact BK312.out⟩, ⟨by (with_reducible repeat (first | refine blk_drewN ?_ _ | refine blk_drew ?_ | refine blk_alloc ?_ _)); exact BK315.out⟩, ⟨by repeat (first | (with_reducible first | exact HB.out | apply below_alloc | apply pw_below_drewN | apply below_drew1 | refine below_set ?_ GE312.out | refine below_set ?_ GE315.out) | exact HB.out)⟩⟩
                            · rw [if_neg c20] at H
                              exact absurd H (by simp)
                          · rw [if_neg c19] at H
                            exact absurd H (by simp)
                        · rw [if_neg c17] at H
                          have c17b0 : decide (0 < (x3_3.length : Int)) = false := decide_eq_false c17
                          have c17b1 : decide (0 < x3_3.length) = false := decide_eq_false (by omega)
                          clear c17
                          (first | rw [c17b0] | (simp only [i64_w, i32_w]; rw [c17b0]) | skip)
                          have H' := Aside0.mk H
                          clear H
                          obtain ⟨Ao26, co26, eo26⟩ := Kd.R_slice HO_3.out
                          subst eo26
                          go_wp2
                          repeat (go_quiet (fail); try go_wp2)
                          go_meet
                          case rel => exact ⟨_, (x3_3), H', ⟨by have := HJ1.out; have := HK2.out; have := HK3.out; first | omega | exact Nat.le_refl _⟩, ⟨by (with_reducible repeat (first | apply Kd.R_alloc | apply Kd.R_drewN | apply Kd.R_drew)); exact HO_3.out⟩, ⟨by (with_reducible repeat (first | refine blk_drewN ?_ _ | refine blk_drew ?_ | refine blk_alloc ?_ _)); exact BK312.out⟩, ⟨by (with_reducible repeat (first | refine blk_drewN ?_ _ | refine blk_drew ?_ | refine blk_alloc ?_ _)); exact BK315.out⟩, ⟨by repeat (first | (with_reducible first | exact HB.out | apply below_alloc | apply pw_below_drewN | apply below_drew1 | refine below_set ?_ GE312.out | refine below_set ?_ GE315.out) | exact HB.out)⟩⟩
                  case rest =>
                    clear HC13
                    try clear c1
                    try clear c2
                    try clear p2
                    try clear q2
                    try clear p3
                    try clear q3
                    try clear hx3
                    try clear qi3
                    try clear c4
                    try clear c4b0
                    try clear c4b1
                    try clear c4b2
                    try clear c6
                    try clear c6b0
                    try clear c6b1
                    try clear p6
                    try clear c8
                    try clear c10
                    try clear c10b0
                    try clear c11
                    try clear c11b0
                    try clear c12
                    try clear c12b0
                    try clear c15
                    try clear c17
                    try clear c17b0
                    try clear c17b1
                    try clear c19
                    try clear c19b0
                    try clear c20
                    try clear c20b0
                    try clear c21
                    try clear c21b0
                    try clear c21b1
                    try clear c22
                    try clear c22b0
                    try clear c22b1
                    try clear q24
                    try clear hcz16_0
                    try clear hcz16_1
                    try clear hcz16_2
                    try clear hcz16_3
                    try clear hcz5_0
                    try clear hcz7_0
                    try clear hcz9_0
                    try clear hfz16_0
                    try clear hfz16_1
                    try clear hfz16_2
                    try clear hfz16_3
                    try clear hfz5_0
                    try clear hfz7_0
                    try clear hfz9_0
                    try clear hx313_0
                    try clear hx313_1
                    try clear hx313_2
                    try clear hx313_3
                    try clear hx314_0
                    try clear hx314_1
                    try clear hx314_2
                    try clear hx314_3
                    try clear hx316_0
                    try clear p2
                    try clear p3
                    try clear p313
                    try clear p314
                    try clear p316
                    try clear q24
                    try clear q3
                    try clear q313
                    try clear q314
                    try clear q316
                    obtain ⟨kq, x3_12, HA, HJ12, HO_3, BK312, BK315, HB⟩ := hcut
                    cases kq with
                    | zero => exact absurd HA.out (by simp [tree_shaped.j3])
                    | succ kj12 =>
                      have H := HA.out
                      clear HA
                      simp only [tree_shaped.j3] at H
                      by_cases c27 : (x3_12.length : Int) > 0
                      · rw [if_pos c27] at H
                        have c27b0 : decide (0 < (x3_12.length : Int)) = true := decide_eq_true c27
                        have c27b1 : decide (0 < x3_12.length) = true := decide_eq_true (by omega)
                        clear c27
                        obtain ⟨ji28, hji28⟩ : ∃ j_ : Int, (wrap64 ((x3_12.length : Int) - 1)) = j_ := ⟨_, rfl⟩
                        replace H : (if 0 ≤ (ji28) then (if (ji28) < (x3_12.length : Int) then (if ((rd_T47 l0_0 x25_2).f0) ≥ 58 then (some false) else (if ((rd_T47 l0_0 x25_2).f3) < 1 then (some false) else (if ((rd_T47 l0_0 x25_2).f3) > (wrap64 ((rd x3_12 (ji28)) - x25_2)) then (some false) else (if x3_12.length < 17592186044416 then (tree_shaped.l0 kj12 (x3_12 ++ [wrap64 (x25_2 + ((rd_T47 l0_0 x25_2).f3))]) l0_0 (l0_0.length : Int) (wrap64 (x25_2 + 1)) l0_0) else (none))))) else (none)) else (none)) = some r := by first | (rw [hji28] at H; exact H) | (simp only [hji28] at H ⊢; exact H)
                        have hji28w : (IntKind.i64.wrap ((x3_12.length : Int) - 1)) = ji28 := (i64_w _).trans hji28
                        by_cases c29 : 0 ≤ (ji28)
                        · rw [if_pos c29] at H
                          have c29b0 : decide (0 ≤ (ji28)) = true := decide_eq_true c29
                          clear c29
                          by_cases c30 : (ji28) < (x3_12.length : Int)
                          · rw [if_pos c30] at H
                            have c30b0 : decide ((ji28) < (x3_12.length : Int)) = true := decide_eq_true c30
                            clear c30
                            by_cases c31 : ((rd_T47 l0_0 x25_2).f0) ≥ 58
                            · rw [if_pos c31] at H
                              have c31b0 : decide (58 ≤ ((rd_T47 l0_0 x25_2).f0)) = true := decide_eq_true c31
                              clear c31
                              obtain rfl := Option.some.inj H
                              have hnb32 := NB312_315.out
                              have hnc32 := NB315_312.out
                              have hcz33_0 : wc.cell? ⟨gb312, 0, none⟩ = some (.slice (some ad314) l0_0.length c0_0) := (blk_cell BK312.out 0).trans rfl
                              have hfz33_0 := blk_frozen BK312.out 0
                              obtain ⟨Ao34, co34, eo34⟩ := Kd.R_slice HO_3.out
                              subst eo34
                              have p320 : 0 ≤ ((ji28) : Int) := of_decide_eq_true (by first | (with_reducible assumption) | assumption)
                              have q320 : (ji28) < (x3_12.length : Int) := of_decide_eq_true (by first | (with_reducible assumption) | assumption)
                              obtain ⟨ad320, e320, hx320_0⟩ := Kd.at_int (Kd.R_reads' HO_3.out).2.2 (ji28) p320 q320
                              cases e320
                              replace p320 := eq_true p320
                              replace q320 := eq_true q320
                              have hcz35_0 : wc.cell? ⟨gb315, 0, none⟩ = some (.int .u8 ((rd_T47 l0_0 x25_2).f0)) := (blk_cell BK315.out 0).trans rfl
                              have hcz35_1 : wc.cell? ⟨gb315, 1, none⟩ = some (.int .i64 ((rd_T47 l0_0 x25_2).f1)) := (blk_cell BK315.out 1).trans rfl
                              have hcz35_2 : wc.cell? ⟨gb315, 2, none⟩ = some (.int .i64 ((rd_T47 l0_0 x25_2).f2)) := (blk_cell BK315.out 2).trans rfl
                              have hcz35_3 : wc.cell? ⟨gb315, 3, none⟩ = some (.int .i64 ((rd_T47 l0_0 x25_2).f3)) := (blk_cell BK315.out 3).trans rfl
                              have hfz35_0 := blk_frozen BK315.out 0
                              have hfz35_1 := blk_frozen BK315.out 1
                              have hfz35_2 := blk_frozen BK315.out 2
                              have hfz35_3 := blk_frozen BK315.out 3
                              go_wp2
                              repeat (go_quiet (fail); try go_wp2)
                              go_ret
                              exact ⟨by first | rfl | (simp [errW_none, errW_some] <;> rfl) | (simp only [← hji28]; first | rfl | (simp [errW_none, errW_some] <;> rfl)) | (simp [*, errW_none, errW_some] <;> rfl), by repeat (first | (with_reducible first | exact HB.out | apply below_alloc | apply pw_below_drewN | apply below_drew1 | refine below_set ?_ GE312.out | refine below_set ?_ GE315.out) | exact HB.out)⟩
                            · rw [if_neg c31] at H
                              have c31b0 : decide (58 ≤ ((rd_T47 l0_0 x25_2).f0)) = false := decide_eq_false c31
                              clear c31
                              by_cases c36 : ((rd_T47 l0_0 x25_2).f3) < 1
                              · rw [if_pos c36] at H
                                have c36b0 : decide (((rd_T47 l0_0 x25_2).f3) < 1) = true := decide_eq_true c36
                                clear c36
                                obtain rfl := Option.some.inj H
                                have hnb37 := NB312_315.out
                                have hnc37 := NB315_312.out
                                have hcz38_0 : wc.cell? ⟨gb312, 0, none⟩ = some (.slice (some ad314) l0_0.length c0_0) := (blk_cell BK312.out 0).trans rfl
                                have hfz38_0 := blk_frozen BK312.out 0
                                obtain ⟨Ao39, co39, eo39⟩ := Kd.R_slice HO_3.out
                                subst eo39
                                have p320 : 0 ≤ ((ji28) : Int) := of_decide_eq_true (by first | (with_reducible assumption) | assumption)
                                have q320 : (ji28) < (x3_12.length : Int) := of_decide_eq_true (by first | (with_reducible assumption) | assumption)
                                obtain ⟨ad320, e320, hx320_0⟩ := Kd.at_int (Kd.R_reads' HO_3.out).2.2 (ji28) p320 q320
                                cases e320
                                replace p320 := eq_true p320
                                replace q320 := eq_true q320
                                have hcz40_0 : wc.cell? ⟨gb315, 0, none⟩ = some (.int .u8 ((rd_T47 l0_0 x25_2).f0)) := (blk_cell BK315.out 0).trans rfl
                                have hcz40_1 : wc.cell? ⟨gb315, 1, none⟩ = some (.int .i64 ((rd_T47 l0_0 x25_2).f1)) := (blk_cell BK315.out 1).trans rfl
                                have hcz40_2 : wc.cell? ⟨gb315, 2, none⟩ = some (.int .i64 ((rd_T47 l0_0 x25_2).f2)) := (blk_cell BK315.out 2).trans rfl
                                have hcz40_3 : wc.cell? ⟨gb315, 3, none⟩ = some (.int .i64 ((rd_T47 l0_0 x25_2).f3)) := (blk_cell BK315.out 3).trans rfl
                                have hfz40_0 := blk_frozen BK315.out 0
                                have hfz40_1 := blk_frozen BK315.out 1
                                have hfz40_2 := blk_frozen BK315.out 2
                                have hfz40_3 := blk_frozen BK315.out 3
                                go_wp2
                                repeat (go_quiet (fail); try go_wp2)
                                go_ret
                                exact ⟨by first | rfl | (simp [errW_none, errW_some] <;> rfl) | (simp only [← hji28]; first | rfl | (simp [errW_none, errW_some] <;> rfl)) | (simp [*, errW_none, errW_some] <;> rfl), by repeat (first | (with_reducible first | exact HB.out | apply below_alloc | apply pw_below_drewN | apply below_drew1 | refine below_set ?_ GE312.out | refine below_set ?_ GE315.out) | exact HB.out)⟩
                              · rw [if_neg c36] at H
                                have c36b0 : decide (((rd_T47 l0_0 x25_2).f3) < 1) = false := decide_eq_false c36
                                clear c36
                                by_cases c41 : ((rd_T47 l0_0 x25_2).f3) > (wrap64 ((rd x3_12 (ji28)) - x25_2))
                                · rw [if_pos c41] at H
                                  have c41b0 : decide ((wrap64 ((rd x3_12 (ji28)) - x25_2)) < ((rd_T47 l0_0 x25_2).f3)) = true := decide_eq_true c41
                                  clear c41
                                  obtain rfl := Option.some.inj H
                                  have hnb42 := NB312_315.out
                                  have hnc42 := NB315_312.out
                                  have hcz43_0 : wc.cell? ⟨gb312, 0, none⟩ = some (.slice (some ad314) l0_0.length c0_0) := (blk_cell BK312.out 0).trans rfl
                                  have hfz43_0 := blk_frozen BK312.out 0
                                  obtain ⟨Ao44, co44, eo44⟩ := Kd.R_slice HO_3.out
                                  subst eo44
                                  have p320 : 0 ≤ ((ji28) : Int) := of_decide_eq_true (by first | (with_reducible assumption) | assumption)
                                  have q320 : (ji28) < (x3_12.length : Int) := of_decide_eq_true (by first | (with_reducible assumption) | assumption)
                                  obtain ⟨ad320, e320, hx320_0⟩ := Kd.at_int (Kd.R_reads' HO_3.out).2.2 (ji28) p320 q320
                                  cases e320
                                  replace p320 := eq_true p320
                                  replace q320 := eq_true q320
                                  have hcz45_0 : wc.cell? ⟨gb315, 0, none⟩ = some (.int .u8 ((rd_T47 l0_0 x25_2).f0)) := (blk_cell BK315.out 0).trans rfl
                                  have hcz45_1 : wc.cell? ⟨gb315, 1, none⟩ = some (.int .i64 ((rd_T47 l0_0 x25_2).f1)) := (blk_cell BK315.out 1).trans rfl
                                  have hcz45_2 : wc.cell? ⟨gb315, 2, none⟩ = some (.int .i64 ((rd_T47 l0_0 x25_2).f2)) := (blk_cell BK315.out 2).trans rfl
                                  have hcz45_3 : wc.cell? ⟨gb315, 3, none⟩ = some (.int .i64 ((rd_T47 l0_0 x25_2).f3)) := (blk_cell BK315.out 3).trans rfl
                                  have hfz45_0 := blk_frozen BK315.out 0
                                  have hfz45_1 := blk_frozen BK315.out 1
                                  have hfz45_2 := blk_frozen BK315.out 2
                                  have hfz45_3 := blk_frozen BK315.out 3
                                  go_wp2
                                  repeat (go_quiet (fail); try go_wp2)
                                  go_ret
                                  exact ⟨by first | rfl | (simp [errW_none, errW_some] <;> rfl) | (simp only [← hji28]; first | rfl | (simp [errW_none, errW_some] <;> rfl)) | (simp [*, errW_none, errW_some] <;> rfl), by repeat (first | (with_reducible first | exact HB.out | apply below_alloc | apply pw_below_drewN | apply below_drew1 | refine below_set ?_ GE312.out | refine below_set ?_ GE315.out) | exact HB.out)⟩
                                · rw [if_neg c41] at H
                                  have c41b0 : decide ((wrap64 ((rd x3_12 (ji28)) - x25_2)) < ((rd_T47 l0_0 x25_2).f3)) = false := decide_eq_false c41
                                  clear c41
                                  by_cases c46 : x3_12.length < 17592186044416
                                  · rw [if_pos c46] at H
                                    have LMc46 := Aside0.mk c46
                                    clear c46
                                    obtain ⟨y321, hy321⟩ : ∃ y_ : List Int, y_ = (x3_12 ++ [wrap64 (x25_2 + ((rd_T47 l0_0 x25_2).f3))]) := ⟨_, rfl⟩
                                    replace H : (tree_shaped.l0 kj12 y321 l0_0 (l0_0.length : Int) (wrap64 (x25_2 + 1)) l0_0) = some r := by first | (rw [hy321]; with_reducible exact H) | (have H2_ := (Option.bind_some _ _).symm.trans H; rw [hy321]; with_reducible exact H2_) | (have H2_ := (Option.bind_some _ _).symm.trans H; with_reducible exact H2_) | with_reducible exact H | (rw [hy321]; exact H) | exact H
                                    have Ny321 := Aside0.mk hy321
                                    clear hy321
                                    have H' := Aside0.mk H
                                    clear H
                                    have hnb47 := NB312_315.out
                                    have hnc47 := NB315_312.out
                                    have hcz48_0 : wc.cell? ⟨gb312, 0, none⟩ = some (.slice (some ad314) l0_0.length c0_0) := (blk_cell BK312.out 0).trans rfl
                                    have hfz48_0 := blk_frozen BK312.out 0
                                    obtain ⟨Ao49, co49, eo49⟩ := Kd.R_slice HO_3.out
                                    subst eo49
                                    have p320 : 0 ≤ ((ji28) : Int) := of_decide_eq_true (by first | (with_reducible assumption) | assumption)
                                    have q320 : (ji28) < (x3_12.length : Int) := of_decide_eq_true (by first | (with_reducible assumption) | assumption)
                                    obtain ⟨ad320, e320, hx320_0⟩ := Kd.at_int (Kd.R_reads' HO_3.out).2.2 (ji28) p320 q320
                                    cases e320
                                    replace p320 := eq_true p320
                                    replace q320 := eq_true q320
                                    have hcz50_0 : wc.cell? ⟨gb315, 0, none⟩ = some (.int .u8 ((rd_T47 l0_0 x25_2).f0)) := (blk_cell BK315.out 0).trans rfl
                                    have hcz50_1 : wc.cell? ⟨gb315, 1, none⟩ = some (.int .i64 ((rd_T47 l0_0 x25_2).f1)) := (blk_cell BK315.out 1).trans rfl
                                    have hcz50_2 : wc.cell? ⟨gb315, 2, none⟩ = some (.int .i64 ((rd_T47 l0_0 x25_2).f2)) := (blk_cell BK315.out 2).trans rfl
                                    have hcz50_3 : wc.cell? ⟨gb315, 3, none⟩ = some (.int .i64 ((rd_T47 l0_0 x25_2).f3)) := (blk_cell BK315.out 3).trans rfl
                                    have hfz50_0 := blk_frozen BK315.out 0
                                    have hfz50_1 := blk_frozen BK315.out 1
                                    have hfz50_2 := blk_frozen BK315.out 2
                                    have hfz50_3 := blk_frozen BK315.out 3
                                    go_wp2_with (first | ((with_reducible refine gate_builtin (b := .append) (xs := #[.tmp 76, .tmp 81]) rfl ?_); (try (refine gate_guard (by rfl) ?_; dsimp only)); at_builtin; refine Kd.R_append (Kd.int .i64) (w0 := w) w.heap.size rfl (.tmp 76) (.tmp 81) 33 3 (.int .i64 0) 8 rfl Try.underlying33 info3 rfl (by decide) (by omega) (.slice (some ad320) x3_12.length co49) x3_12 (wrap64 (x25_2 + ((rd_T47 l0_0 x25_2).f3))) [.int .i64 (wrap64 (x25_2 + ((rd_T47 l0_0 x25_2).f3)))] (fun _ => True) (fun _ => False) rfl rfl ?aP (fun _ hk => hk.elim) ?aF ?aO ?aB ?aS ?aL ?_; (case aP => exact rfl); (case aB => exact (by repeat (first | (with_reducible first | exact HB.out | apply below_alloc | apply pw_below_drewN | apply below_drew1 | refine below_set ?_ GE312.out | refine below_set ?_ GE315.out) | exact HB.out))); (case aF => exact (fun _ _ => trivial)); (case aO => exact (by (with_reducible repeat (first | apply Kd.R_alloc | apply Kd.R_drewN | apply Kd.R_drew)); exact HO_3.out)); (case aS => exact (below_size (by repeat (first | (with_reducible first | exact HB.out | apply below_alloc | apply pw_below_drewN | apply below_drew1 | refine below_set ?_ GE312.out | refine below_set ?_ GE315.out) | exact HB.out)))); (case aL => have := LMc46.out; omega); intro v322 w51 ho hb hg hat; rw [← Ny321.out] at ho; have n0_ := Aside0.mk (blk_grown (g := gb312) (o := .cells #[.slice (some ad314) l0_0.length c0_0] 25 (0, 0)) (by (with_reducible repeat (first | refine blk_drewN ?_ _ | refine blk_drew ?_ | refine blk_alloc ?_ _)); exact BK312.out) hg (Kd.R_ne HO_3.out BK312.out (by decide))); have n1_ := Aside0.mk (blk_grown (g := gb315) (o := .cells #[.int .u8 ((rd_T47 l0_0 x25_2).f0), .int .i64 ((rd_T47 l0_0 x25_2).f1), .int .i64 ((rd_T47 l0_0 x25_2).f2), .int .i64 ((rd_T47 l0_0 x25_2).f3)] 47 (0, 0)) (by (with_reducible repeat (first | refine blk_drewN ?_ _ | refine blk_drew ?_ | refine blk_alloc ?_ _)); exact BK315.out) hg (Kd.R_ne HO_3.out BK315.out (by decide))); have n2_ := Aside0.mk (hb); have n3_ := Aside0.mk (ho); clear BK312; clear BK315; clear HB; clear HO_3; have BK312 := n0_; have BK315 := n1_; have HB := n2_; have HO323 := n3_; clear n0_ n1_ n2_ n3_; clear ho hb hg hat))
                                    repeat (go_quiet (first | ((with_reducible refine gate_builtin (b := .append) (xs := #[.tmp 76, .tmp 81]) rfl ?_); (try (refine gate_guard (by rfl) ?_; dsimp only)); at_builtin; refine Kd.R_append (Kd.int .i64) (w0 := w) w.heap.size rfl (.tmp 76) (.tmp 81) 33 3 (.int .i64 0) 8 rfl Try.underlying33 info3 rfl (by decide) (by omega) (.slice (some ad320) x3_12.length co49) x3_12 (wrap64 (x25_2 + ((rd_T47 l0_0 x25_2).f3))) [.int .i64 (wrap64 (x25_2 + ((rd_T47 l0_0 x25_2).f3)))] (fun _ => True) (fun _ => False) rfl rfl ?aP (fun _ hk => hk.elim) ?aF ?aO ?aB ?aS ?aL ?_; (case aP => exact rfl); (case aB => exact (by repeat (first | (with_reducible first | exact HB.out | apply below_alloc | apply pw_below_drewN | apply below_drew1 | refine below_set ?_ GE312.out | refine below_set ?_ GE315.out) | exact HB.out))); (case aF => exact (fun _ _ => trivial)); (case aO => exact (by (with_reducible repeat (first | apply Kd.R_alloc | apply Kd.R_drewN | apply Kd.R_drew)); exact HO_3.out)); (case aS => exact (below_size (by repeat (first | (with_reducible first | exact HB.out | apply below_alloc | apply pw_below_drewN | apply below_drew1 | refine below_set ?_ GE312.out | refine below_set ?_ GE315.out) | exact HB.out)))); (case aL => have := LMc46.out; omega); intro v322 w51 ho hb hg hat; rw [← Ny321.out] at ho; have n0_ := Aside0.mk (blk_grown (g := gb312) (o := .cells #[.slice (some ad314) l0_0.length c0_0] 25 (0, 0)) (by (with_reducible repeat (first | refine blk_drewN ?_ _ | refine blk_drew ?_ | refine blk_alloc ?_ _)); exact BK312.out) hg (Kd.R_ne HO_3.out BK312.out (by decide))); have n1_ := Aside0.mk (blk_grown (g := gb315) (o := .cells #[.int .u8 ((rd_T47 l0_0 x25_2).f0), .int .i64 ((rd_T47 l0_0 x25_2).f1), .int .i64 ((rd_T47 l0_0 x25_2).f2), .int .i64 ((rd_T47 l0_0 x25_2).f3)] 47 (0, 0)) (by (with_reducible repeat (first | refine blk_drewN ?_ _ | refine blk_drew ?_ | refine blk_alloc ?_ _)); exact BK315.out) hg (Kd.R_ne HO_3.out BK315.out (by decide))); have n2_ := Aside0.mk (hb); have n3_ := Aside0.mk (ho); clear BK312; clear BK315; clear HB; clear HO_3; have BK312 := n0_; have BK315 := n1_; have HB := n2_; have HO323 := n3_; clear n0_ n1_ n2_ n3_; clear ho hb hg hat)); try go_wp2_with (first | ((with_reducible refine gate_builtin (b := .append) (xs := #[.tmp 76, .tmp 81]) rfl ?_); (try (refine gate_guard (by rfl) ?_; dsimp only)); at_builtin; refine Kd.R_append (Kd.int .i64) (w0 := w) w.heap.size rfl (.tmp 76) (.tmp 81) 33 3 (.int .i64 0) 8 rfl Try.underlying33 info3 rfl (by decide) (by omega) (.slice (some ad320) x3_12.length co49) x3_12 (wrap64 (x25_2 + ((rd_T47 l0_0 x25_2).f3))) [.int .i64 (wrap64 (x25_2 + ((rd_T47 l0_0 x25_2).f3)))] (fun _ => True) (fun _ => False) rfl rfl ?aP (fun _ hk => hk.elim) ?aF ?aO ?aB ?aS ?aL ?_; (case aP => exact rfl); (case aB => exact (by repeat (first | (with_reducible first | exact HB.out | apply below_alloc | apply pw_below_drewN | apply below_drew1 | refine below_set ?_ GE312.out | refine below_set ?_ GE315.out) | exact HB.out))); (case aF => exact (fun _ _ => trivial)); (case aO => exact (by (with_reducible repeat (first | apply Kd.R_alloc | apply Kd.R_drewN | apply Kd.R_drew)); exact HO_3.out)); (case aS => exact (below_size (by repeat (first | (with_reducible first | exact HB.out | apply below_alloc | apply pw_below_drewN | apply below_drew1 | refine below_set ?_ GE312.out | refine below_set ?_ GE315.out) | exact HB.out)))); (case aL => have := LMc46.out; omega); intro v322 w51 ho hb hg hat; rw [← Ny321.out] at ho; have n0_ := Aside0.mk (blk_grown (g := gb312) (o := .cells #[.slice (some ad314) l0_0.length c0_0] 25 (0, 0)) (by (with_reducible repeat (first | refine blk_drewN ?_ _ | refine blk_drew ?_ | refine blk_alloc ?_ _)); exact BK312.out) hg (Kd.R_ne HO_3.out BK312.out (by decide))); have n1_ := Aside0.mk (blk_grown (g := gb315) (o := .cells #[.int .u8 ((rd_T47 l0_0 x25_2).f0), .int .i64 ((rd_T47 l0_0 x25_2).f1), .int .i64 ((rd_T47 l0_0 x25_2).f2), .int .i64 ((rd_T47 l0_0 x25_2).f3)] 47 (0, 0)) (by (with_reducible repeat (first | refine blk_drewN ?_ _ | refine blk_drew ?_ | refine blk_alloc ?_ _)); exact BK315.out) hg (Kd.R_ne HO_3.out BK315.out (by decide))); have n2_ := Aside0.mk (hb); have n3_ := Aside0.mk (ho); clear BK312; clear BK315; clear HB; clear HO_3; have BK312 := n0_; have BK315 := n1_; have HB := n2_; have HO323 := n3_; clear n0_ n1_ n2_ n3_; clear ho hb hg hat)))
                                    go_roundg kj12
                                    case measure => have := HJ1.out; have := HK2.out; have := HJ12.out; omega
                                    case rel => exact ⟨(y321), (wrap64 (x25_2 + 1)), (by first | rfl | (simp; done) | (simp [*]; done)), H', ⟨by have := HJ1.out; have := HK2.out; have := HJ12.out; omega⟩, ⟨by (with_reducible repeat (first | apply Kd.R_alloc | apply Kd.R_drewN | apply Kd.R_drew)); exact HO323.out⟩, ⟨by (with_reducible repeat (first | refine blk_drewN ?_ _ | refine blk_drew ?_ | refine blk_alloc ?_ _)); exact BK312.out⟩, ⟨by repeat (first | (with_reducible first | exact HB.out | apply below_alloc | apply pw_below_drewN | apply below_drew1 | refine below_set ?_ GE312.out | refine below_set ?_ GE315.out) | exact HB.out)⟩⟩
                                  · rw [if_neg c46] at H
                                    exact absurd H (by simp)
                          · rw [if_neg c30] at H
                            exact absurd H (by simp)
                        · rw [if_neg c29] at H
                          exact absurd H (by simp)
                      · rw [if_neg c27] at H
                        have c27b0 : decide (0 < (x3_12.length : Int)) = false := decide_eq_false c27
                        have c27b1 : decide (0 < x3_12.length) = false := decide_eq_false (by omega)
                        clear c27
                        by_cases c52 : ((rd_T47 l0_0 x25_2).f0) ≥ 58
                        · rw [if_pos c52] at H
                          have c52b0 : decide (58 ≤ ((rd_T47 l0_0 x25_2).f0)) = true := decide_eq_true c52
                          clear c52
                          obtain rfl := Option.some.inj H
                          have hnb53 := NB312_315.out
                          have hnc53 := NB315_312.out
                          have hcz54_0 : wc.cell? ⟨gb312, 0, none⟩ = some (.slice (some ad314) l0_0.length c0_0) := (blk_cell BK312.out 0).trans rfl
                          have hfz54_0 := blk_frozen BK312.out 0
                          obtain ⟨Ao55, co55, eo55⟩ := Kd.R_slice HO_3.out
                          subst eo55
                          have hcz56_0 : wc.cell? ⟨gb315, 0, none⟩ = some (.int .u8 ((rd_T47 l0_0 x25_2).f0)) := (blk_cell BK315.out 0).trans rfl
                          have hcz56_1 : wc.cell? ⟨gb315, 1, none⟩ = some (.int .i64 ((rd_T47 l0_0 x25_2).f1)) := (blk_cell BK315.out 1).trans rfl
                          have hcz56_2 : wc.cell? ⟨gb315, 2, none⟩ = some (.int .i64 ((rd_T47 l0_0 x25_2).f2)) := (blk_cell BK315.out 2).trans rfl
                          have hcz56_3 : wc.cell? ⟨gb315, 3, none⟩ = some (.int .i64 ((rd_T47 l0_0 x25_2).f3)) := (blk_cell BK315.out 3).trans rfl
                          have hfz56_0 := blk_frozen BK315.out 0
                          have hfz56_1 := blk_frozen BK315.out 1
                          have hfz56_2 := blk_frozen BK315.out 2
                          have hfz56_3 := blk_frozen BK315.out 3
                          go_wp2
                          repeat (go_quiet (fail); try go_wp2)
                          go_ret
                          exact ⟨by first | rfl | (simp [errW_none, errW_some] <;> rfl) | (simp [*, errW_none, errW_some] <;> rfl), by repeat (first | (with_reducible first | exact HB.out | apply below_alloc | apply pw_below_drewN | apply below_drew1 | refine below_set ?_ GE312.out | refine below_set ?_ GE315.out) | exact HB.out)⟩
                        · rw [if_neg c52] at H
                          have c52b0 : decide (58 ≤ ((rd_T47 l0_0 x25_2).f0)) = false := decide_eq_false c52
                          clear c52
                          by_cases c57 : ((rd_T47 l0_0 x25_2).f3) < 1
                          · rw [if_pos c57] at H
                            have c57b0 : decide (((rd_T47 l0_0 x25_2).f3) < 1) = true := decide_eq_true c57
                            clear c57
                            obtain rfl := Option.some.inj H
                            have hnb58 := NB312_315.out
                            have hnc58 := NB315_312.out
                            have hcz59_0 : wc.cell? ⟨gb312, 0, none⟩ = some (.slice (some ad314) l0_0.length c0_0) := (blk_cell BK312.out 0).trans rfl
                            have hfz59_0 := blk_frozen BK312.out 0
                            obtain ⟨Ao60, co60, eo60⟩ := Kd.R_slice HO_3.out
                            subst eo60
                            have hcz61_0 : wc.cell? ⟨gb315, 0, none⟩ = some (.int .u8 ((rd_T47 l0_0 x25_2).f0)) := (blk_cell BK315.out 0).trans rfl
                            have hcz61_1 : wc.cell? ⟨gb315, 1, none⟩ = some (.int .i64 ((rd_T47 l0_0 x25_2).f1)) := (blk_cell BK315.out 1).trans rfl
                            have hcz61_2 : wc.cell? ⟨gb315, 2, none⟩ = some (.int .i64 ((rd_T47 l0_0 x25_2).f2)) := (blk_cell BK315.out 2).trans rfl
                            have hcz61_3 : wc.cell? ⟨gb315, 3, none⟩ = some (.int .i64 ((rd_T47 l0_0 x25_2).f3)) := (blk_cell BK315.out 3).trans rfl
                            have hfz61_0 := blk_frozen BK315.out 0
                            have hfz61_1 := blk_frozen BK315.out 1
                            have hfz61_2 := blk_frozen BK315.out 2
                            have hfz61_3 := blk_frozen BK315.out 3
                            go_wp2
                            repeat (go_quiet (fail); try go_wp2)
                            go_ret
                            exact ⟨by first | rfl | (simp [errW_none, errW_some] <;> rfl) | (simp [*, errW_none, errW_some] <;> rfl), by repeat (first | (with_reducible first | exact HB.out | apply below_alloc | apply pw_below_drewN | apply below_drew1 | refine below_set ?_ GE312.out | refine below_set ?_ GE315.out) | exact HB.out)⟩
                          · rw [if_neg c57] at H
                            have c57b0 : decide (((rd_T47 l0_0 x25_2).f3) < 1) = false := decide_eq_false c57
                            clear c57
                            by_cases c62 : ((rd_T47 l0_0 x25_2).f3) > (wrap64 ((l0_0.length : Int) - x25_2))
                            · rw [if_pos c62] at H
                              have c62b0 : decide ((wrap64 ((l0_0.length : Int) - x25_2)) < ((rd_T47 l0_0 x25_2).f3)) = true := decide_eq_true c62
                              clear c62
                              obtain rfl := Option.some.inj H
                              have hnb63 := NB312_315.out
                              have hnc63 := NB315_312.out
                              have hcz64_0 : wc.cell? ⟨gb312, 0, none⟩ = some (.slice (some ad314) l0_0.length c0_0) := (blk_cell BK312.out 0).trans rfl
                              have hfz64_0 := blk_frozen BK312.out 0
                              obtain ⟨Ao65, co65, eo65⟩ := Kd.R_slice HO_3.out
                              subst eo65
                              have hcz66_0 : wc.cell? ⟨gb315, 0, none⟩ = some (.int .u8 ((rd_T47 l0_0 x25_2).f0)) := (blk_cell BK315.out 0).trans rfl
                              have hcz66_1 : wc.cell? ⟨gb315, 1, none⟩ = some (.int .i64 ((rd_T47 l0_0 x25_2).f1)) := (blk_cell BK315.out 1).trans rfl
                              have hcz66_2 : wc.cell? ⟨gb315, 2, none⟩ = some (.int .i64 ((rd_T47 l0_0 x25_2).f2)) := (blk_cell BK315.out 2).trans rfl
                              have hcz66_3 : wc.cell? ⟨gb315, 3, none⟩ = some (.int .i64 ((rd_T47 l0_0 x25_2).f3)) := (blk_cell BK315.out 3).trans rfl
                              have hfz66_0 := blk_frozen BK315.out 0
                              have hfz66_1 := blk_frozen BK315.out 1
                              have hfz66_2 := blk_frozen BK315.out 2
                              have hfz66_3 := blk_frozen BK315.out 3
                              go_wp2
                              repeat (go_quiet (fail); try go_wp2)
                              go_ret
                              exact ⟨by first | rfl | (simp [errW_none, errW_some] <;> rfl) | (simp [*, errW_none, errW_some] <;> rfl), by repeat (first | (with_reducible first | exact HB.out | apply below_alloc | apply pw_below_drewN | apply below_drew1 | refine below_set ?_ GE312.out | refine below_set ?_ GE315.out) | exact HB.out)⟩
                            · rw [if_neg c62] at H
                              have c62b0 : decide ((wrap64 ((l0_0.length : Int) - x25_2)) < ((rd_T47 l0_0 x25_2).f3)) = false := decide_eq_false c62
                              clear c62
                              by_cases c67 : x3_12.length < 17592186044416
                              · rw [if_pos c67] at H
                                have LMc67 := Aside0.mk c67
                                clear c67
                                obtain ⟨y324, hy324⟩ : ∃ y_ : List Int, y_ = (x3_12 ++ [wrap64 (x25_2 + ((rd_T47 l0_0 x25_2).f3))]) := ⟨_, rfl⟩
                                replace H : (tree_shaped.l0 kj12 y324 l0_0 (l0_0.length : Int) (wrap64 (x25_2 + 1)) l0_0) = some r := by first | (rw [hy324]; with_reducible exact H) | (have H2_ := (Option.bind_some _ _).symm.trans H; rw [hy324]; with_reducible exact H2_) | (have H2_ := (Option.bind_some _ _).symm.trans H; with_reducible exact H2_) | with_reducible exact H | (rw [hy324]; exact H) | exact H
                                have Ny324 := Aside0.mk hy324
                                clear hy324
                                have H' := Aside0.mk H
                                clear H
                                have hnb68 := NB312_315.out
                                have hnc68 := NB315_312.out
                                have hcz69_0 : wc.cell? ⟨gb312, 0, none⟩ = some (.slice (some ad314) l0_0.length c0_0) := (blk_cell BK312.out 0).trans rfl
                                have hfz69_0 := blk_frozen BK312.out 0
                                obtain ⟨Ao70, co70, eo70⟩ := Kd.R_slice HO_3.out
                                subst eo70
                                have hcz71_0 : wc.cell? ⟨gb315, 0, none⟩ = some (.int .u8 ((rd_T47 l0_0 x25_2).f0)) := (blk_cell BK315.out 0).trans rfl
                                have hcz71_1 : wc.cell? ⟨gb315, 1, none⟩ = some (.int .i64 ((rd_T47 l0_0 x25_2).f1)) := (blk_cell BK315.out 1).trans rfl
                                have hcz71_2 : wc.cell? ⟨gb315, 2, none⟩ = some (.int .i64 ((rd_T47 l0_0 x25_2).f2)) := (blk_cell BK315.out 2).trans rfl
                                have hcz71_3 : wc.cell? ⟨gb315, 3, none⟩ = some (.int .i64 ((rd_T47 l0_0 x25_2).f3)) := (blk_cell BK315.out 3).trans rfl
                                have hfz71_0 := blk_frozen BK315.out 0
                                have hfz71_1 := blk_frozen BK315.out 1
                                have hfz71_2 := blk_frozen BK315.out 2
                                have hfz71_3 := blk_frozen BK315.out 3
                                go_wp2_with (first | ((with_reducible refine gate_builtin (b := .append) (xs := #[.tmp 76, .tmp 81]) rfl ?_); (try (refine gate_guard (by rfl) ?_; dsimp only)); at_builtin; refine Kd.R_append (Kd.int .i64) (w0 := w) w.heap.size rfl (.tmp 76) (.tmp 81) 33 3 (.int .i64 0) 8 rfl Try.underlying33 info3 rfl (by decide) (by omega) (.slice Ao70 x3_12.length co70) x3_12 (wrap64 (x25_2 + ((rd_T47 l0_0 x25_2).f3))) [.int .i64 (wrap64 (x25_2 + ((rd_T47 l0_0 x25_2).f3)))] (fun _ => True) (fun _ => False) rfl rfl ?aP (fun _ hk => hk.elim) ?aF ?aO ?aB ?aS ?aL ?_; (case aP => exact rfl); (case aB => exact (by repeat (first | (with_reducible first | exact HB.out | apply below_alloc | apply pw_below_drewN | apply below_drew1 | refine below_set ?_ GE312.out | refine below_set ?_ GE315.out) | exact HB.out))); (case aF => exact (fun _ _ => trivial)); (case aO => exact (by (with_reducible repeat (first | apply Kd.R_alloc | apply Kd.R_drewN | apply Kd.R_drew)); exact HO_3.out)); (case aS => exact (below_size (by repeat (first | (with_reducible first | exact HB.out | apply below_alloc | apply pw_below_drewN | apply below_drew1 | refine below_set ?_ GE312.out | refine below_set ?_ GE315.out) | exact HB.out)))); (case aL => have := LMc67.out; omega); intro v325 w72 ho hb hg hat; rw [← Ny324.out] at ho; have n0_ := Aside0.mk (blk_grown (g := gb312) (o := .cells #[.slice (some ad314) l0_0.length c0_0] 25 (0, 0)) (by (with_reducible repeat (first | refine blk_drewN ?_ _ | refine blk_drew ?_ | refine blk_alloc ?_ _)); exact BK312.out) hg (Kd.R_ne HO_3.out BK312.out (by decide))); have n1_ := Aside0.mk (blk_grown (g := gb315) (o := .cells #[.int .u8 ((rd_T47 l0_0 x25_2).f0), .int .i64 ((rd_T47 l0_0 x25_2).f1), .int .i64 ((rd_T47 l0_0 x25_2).f2), .int .i64 ((rd_T47 l0_0 x25_2).f3)] 47 (0, 0)) (by (with_reducible repeat (first | refine blk_drewN ?_ _ | refine blk_drew ?_ | refine blk_alloc ?_ _)); exact BK315.out) hg (Kd.R_ne HO_3.out BK315.out (by decide))); have n2_ := Aside0.mk (hb); have n3_ := Aside0.mk (ho); clear BK312; clear BK315; clear HB; clear HO_3; have BK312 := n0_; have BK315 := n1_; have HB := n2_; have HO326 := n3_; clear n0_ n1_ n2_ n3_; clear ho hb hg hat))
                                repeat (go_quiet (first | ((with_reducible refine gate_builtin (b := .append) (xs := #[.tmp 76, .tmp 81]) rfl ?_); (try (refine gate_guard (by rfl) ?_; dsimp only)); at_builtin; refine Kd.R_append (Kd.int .i64) (w0 := w) w.heap.size rfl (.tmp 76) (.tmp 81) 33 3 (.int .i64 0) 8 rfl Try.underlying33 info3 rfl (by decide) (by omega) (.slice Ao70 x3_12.length co70) x3_12 (wrap64 (x25_2 + ((rd_T47 l0_0 x25_2).f3))) [.int .i64 (wrap64 (x25_2 + ((rd_T47 l0_0 x25_2).f3)))] (fun _ => True) (fun _ => False) rfl rfl ?aP (fun _ hk => hk.elim) ?aF ?aO ?aB ?aS ?aL ?_; (case aP => exact rfl); (case aB => exact (by repeat (first | (with_reducible first | exact HB.out | apply below_alloc | apply pw_below_drewN | apply below_drew1 | refine below_set ?_ GE312.out | refine below_set ?_ GE315.out) | exact HB.out))); (case aF => exact (fun _ _ => trivial)); (case aO => exact (by (with_reducible repeat (first | apply Kd.R_alloc | apply Kd.R_drewN | apply Kd.R_drew)); exact HO_3.out)); (case aS => exact (below_size (by repeat (first | (with_reducible first | exact HB.out | apply below_alloc | apply pw_below_drewN | apply below_drew1 | refine below_set ?_ GE312.out | refine below_set ?_ GE315.out) | exact HB.out)))); (case aL => have := LMc67.out; omega); intro v325 w72 ho hb hg hat; rw [← Ny324.out] at ho; have n0_ := Aside0.mk (blk_grown (g := gb312) (o := .cells #[.slice (some ad314) l0_0.length c0_0] 25 (0, 0)) (by (with_reducible repeat (first | refine blk_drewN ?_ _ | refine blk_drew ?_ | refine blk_alloc ?_ _)); exact BK312.out) hg (Kd.R_ne HO_3.out BK312.out (by decide))); have n1_ := Aside0.mk (blk_grown (g := gb315) (o := .cells #[.int .u8 ((rd_T47 l0_0 x25_2).f0), .int .i64 ((rd_T47 l0_0 x25_2).f1), .int .i64 ((rd_T47 l0_0 x25_2).f2), .int .i64 ((rd_T47 l0_0 x25_2).f3)] 47 (0, 0)) (by (with_reducible repeat (first | refine blk_drewN ?_ _ | refine blk_drew ?_ | refine blk_alloc ?_ _)); exact BK315.out) hg (Kd.R_ne HO_3.out BK315.out (by decide))); have n2_ := Aside0.mk (hb); have n3_ := Aside0.mk (ho); clear BK312; clear BK315; clear HB; clear HO_3; have BK312 := n0_; have BK315 := n1_; have HB := n2_; have HO326 := n3_; clear n0_ n1_ n2_ n3_; clear ho hb hg hat)); try go_wp2_with (first | ((with_reducible refine gate_builtin (b := .append) (xs := #[.tmp 76, .tmp 81]) rfl ?_); (try (refine gate_guard (by rfl) ?_; dsimp only)); at_builtin; refine Kd.R_append (Kd.int .i64) (w0 := w) w.heap.size rfl (.tmp 76) (.tmp 81) 33 3 (.int .i64 0) 8 rfl Try.underlying33 info3 rfl (by decide) (by omega) (.slice Ao70 x3_12.length co70) x3_12 (wrap64 (x25_2 + ((rd_T47 l0_0 x25_2).f3))) [.int .i64 (wrap64 (x25_2 + ((rd_T47 l0_0 x25_2).f3)))] (fun _ => True) (fun _ => False) rfl rfl ?aP (fun _ hk => hk.elim) ?aF ?aO ?aB ?aS ?aL ?_; (case aP => exact rfl); (case aB => exact (by repeat (first | (with_reducible first | exact HB.out | apply below_alloc | apply pw_below_drewN | apply below_drew1 | refine below_set ?_ GE312.out | refine below_set ?_ GE315.out) | exact HB.out))); (case aF => exact (fun _ _ => trivial)); (case aO => exact (by (with_reducible repeat (first | apply Kd.R_alloc | apply Kd.R_drewN | apply Kd.R_drew)); exact HO_3.out)); (case aS => exact (below_size (by repeat (first | (with_reducible first | exact HB.out | apply below_alloc | apply pw_below_drewN | apply below_drew1 | refine below_set ?_ GE312.out | refine below_set ?_ GE315.out) | exact HB.out)))); (case aL => have := LMc67.out; omega); intro v325 w72 ho hb hg hat; rw [← Ny324.out] at ho; have n0_ := Aside0.mk (blk_grown (g := gb312) (o := .cells #[.slice (some ad314) l0_0.length c0_0] 25 (0, 0)) (by (with_reducible repeat (first | refine blk_drewN ?_ _ | refine blk_drew ?_ | refine blk_alloc ?_ _)); exact BK312.out) hg (Kd.R_ne HO_3.out BK312.out (by decide))); have n1_ := Aside0.mk (blk_grown (g := gb315) (o := .cells #[.int .u8 ((rd_T47 l0_0 x25_2).f0), .int .i64 ((rd_T47 l0_0 x25_2).f1), .int .i64 ((rd_T47 l0_0 x25_2).f2), .int .i64 ((rd_T47 l0_0 x25_2).f3)] 47 (0, 0)) (by (with_reducible repeat (first | refine blk_drewN ?_ _ | refine blk_drew ?_ | refine blk_alloc ?_ _)); exact BK315.out) hg (Kd.R_ne HO_3.out BK315.out (by decide))); have n2_ := Aside0.mk (hb); have n3_ := Aside0.mk (ho); clear BK312; clear BK315; clear HB; clear HO_3; have BK312 := n0_; have BK315 := n1_; have HB := n2_; have HO326 := n3_; clear n0_ n1_ n2_ n3_; clear ho hb hg hat)))
                                go_roundg kj12
                                case measure => have := HJ1.out; have := HK2.out; have := HJ12.out; omega
                                case rel => exact ⟨(y324), (wrap64 (x25_2 + 1)), (by first | rfl | (simp; done) | (simp [*]; done)), H', ⟨by have := HJ1.out; have := HK2.out; have := HJ12.out; omega⟩, ⟨by (with_reducible repeat (first | apply Kd.R_alloc | apply Kd.R_drewN | apply Kd.R_drew)); exact HO326.out⟩, ⟨by (with_reducible repeat (first | refine blk_drewN ?_ _ | refine blk_drew ?_ | refine blk_alloc ?_ _)); exact BK312.out⟩, ⟨by repeat (first | (with_reducible first | exact HB.out | apply below_alloc | apply pw_below_drewN | apply below_drew1 | refine below_set ?_ GE312.out | refine below_set ?_ GE315.out) | exact HB.out)⟩⟩
                              · rw [if_neg c67] at H
                                exact absurd H (by simp)
                · rw [if_neg c12] at H
                  exact absurd H (by simp)
              · rw [if_neg c11] at H
                exact absurd H (by simp)
            · rw [if_neg c10] at H
              have c10b0 : decide (x25_2 < (l0_0.length : Int)) = false := decide_eq_false c10
              clear c10
              obtain rfl := Option.some.inj H
              go_wp2
              repeat (go_quiet (fail); try go_wp2)
              go_ret
              exact ⟨by first | rfl | (simp [errW_none, errW_some] <;> rfl) | (simp [*, errW_none, errW_some] <;> rfl), by repeat (first | (with_reducible first | exact HB.out | apply below_alloc | apply pw_below_drewN | apply below_drew1 | refine below_set ?_ GE312.out) | exact HB.out)⟩

end Go.Proofs.Ytodldpdnhcafpaa.F

namespace Go.Proofs.Ytodldpdnhcafpaa.F
open Go.RowKit Go.Proofs.YtodldpdnhcafpaaW.PrintWords Go.Proofs.YtodldpdnhcafpaaW.PrintLast Go.Proofs.YtodldpdnhcafpaaW.PrintMore
open Go.Proofs.Ytodldpdnhcafpaa.K
set_option linter.unusedVariables false
set_option linter.unusedSimpArgs false

def vfold (l : List S47) (nd : S47) (ks : List Int) : Bool × Int := ks.foldl (fun s x => vstep nd (rd_T47 l x) s.1 s.2) (true, nd.f1)
theorem vfold_snoc (l : List S47) (nd : S47) (ks : List Int) (x : Int) : vfold l nd (ks ++ [x]) = vstep nd (rd_T47 l x) (vfold l nd ks).1 (vfold l nd ks).2 := by simp [vfold]
def tree_Valid.l0 : Nat → List S47 → Int → Int → Option Bool
  | 0, _, _, _ => none
  | k + 1, l, q, i => if i < (l.length : Int) then (if 0 ≤ i then (if (rd_T47 l i).f1 < 0 then some false else if (rd_T47 l i).f2 < (rd_T47 l i).f1 then some false else if (rd_T47 l i).f2 > q then some false else (kids.f k l i).bind fun r => (if (vfold l (rd_T47 l i) r.1).1 = true then tree_Valid.l0 k l q (wrap64 (i + 1)) else some false)) else none) else some true
def tree_Valid.f (k : Nat) (l : List S47) (q : Int) : Option Bool := (tree_shaped.f k l).bind fun s => if s = true then tree_Valid.l0 k l q 0 else some false
def ValJ (l : List S47) (nd : S47) (gg ga gt gx : Nat) (vt : Value) (gb : Nat) (pre : List Int) (W : World) : Prop :=
  gb ≠ gg ∧ gb ≠ ga ∧ gt ≠ gg ∧ gt ≠ ga ∧ gx ≠ gg ∧ gx ≠ ga ∧ W.heap[gt]? = some (.cells #[vt] 25 (0, 0)) ∧ W.heap[gx]? = some (.cells #[.int .u8 nd.f0, .int .i64 nd.f1, .int .i64 nd.f2, .int .i64 nd.f3] 47 (0, 0)) ∧
    W.heap[gg]? = some (.cells #[.bool (vfold l nd pre).1] 4 (0, 0)) ∧ W.heap[ga]? = some (.cells #[.int .i64 (vfold l nd pre).2] 3 (0, 0))
set_option maxHeartbeats 8000000 in
set_option maxRecDepth 100000 in
theorem tree_Valid.calls (k : Nat) (A : Option Addr) (c : Nat) (l : List S47) (q : Int) (r : Bool) (w : World) (hr : Kd.C k47 w A l.length l) (hc : l.length ≤ c) (h : tree_Valid.f k l q = some r) :
    Calls Try.prog 44 #[.agg #[.slice A l.length c], .int .i64 q] w fun e w' => e = .returned (.bool r) ∧ Below w.heap.size w w' := by
  have hu25 := Try.underlying25
  have HR := Aside0.mk hr
  have HC := Aside0.mk hc
  obtain ⟨s, hs, h⟩ := Option.bind_eq_some_iff.1 h
  have HS := Aside0.mk hs
  have HF := Aside0.mk h
  clear h hr hc hs
  have HB := Aside0.mk (Below.refl w.heap.size w)
  have EG : ∀ args W, (callFunc 61 args).run Try.prog W = .ok (.enter 61 args) W := fun args W => enters_ Try.func61 (by kernel_rfl) rfl args W
  have EG' := Aside0.mk EG
  clear EG
  go_enter Try.func44, Try.ntmps44
  go_wp2_with (first
    | ((with_reducible refine gate_dst (N := 2) rfl ?_); refine box_event ?hg2 (N := 2) ?hd2 (cs := #[.slice A l.length c]) (t := 25) ?hr2 ?_; (case hd2 => rfl); (case hg2 => rfl); (case hr2 => first | (go_simp; done) | (go_simp; rfl)); intro g2 hg w1 hbox hb; have n0_ := Aside0.mk (below_step HB.out hb); have n1_ := Aside0.mk hbox; clear HB; have HB := n0_; have BK2 := n1_; clear n0_ n1_ hb hbox hg; have hcz2 : w1.cell? ⟨g2, 0, none⟩ = some (.slice A l.length c) := (blk_cell BK2.out 0).trans rfl))
  refine (tree_shaped.calls k A c l s _ (Kd.C_below HR.out HB.out) HC.out HS.out).mono ?_
  rintro e w2 ⟨rfl, hb⟩
  have n0_ := Aside0.mk (below_step HB.out hb)
  have n1_ := Aside0.mk (blk_below BK2.out hb)
  clear HB BK2 hcz2 hb
  have HB := n0_
  have BK2 := n1_
  clear n0_ n1_
  have hcz2 : w2.cell? ⟨g2, 0, none⟩ = some (.slice A l.length c) := (blk_cell BK2.out 0).trans rfl
  cases s with
  | false =>
    have he := HF.out
    simp only [Bool.false_eq_true, if_false] at he
    obtain rfl := Option.some.inj he
    go_wp2
    go_ret
    exact ⟨rfl, HB.out⟩
  | true =>
    have H' := Aside0.mk (show tree_Valid.l0 k l q 0 = some r by simpa using HF.out)
    clear HF
    go_wp2
    go_loopg [15] k (fun kq v15 w' => ∃ (i : Int), v15 = .int .i64 i ∧ Aside0 (tree_Valid.l0 kq l q i = some r) ∧ Aside0 (kq ≤ k) ∧ Aside0 (w'.heap[g2]? = some (.cells #[.slice A l.length c] 25 (0, 0))) ∧ Aside0 (Below w.heap.size w w'))
    case atStart => exact ⟨0, by first | rfl | simp, H', ⟨Nat.le_refl _⟩, BK2, HB⟩
    case round =>
      clear hcz2 BK2 HB H'
      obtain ⟨i, rfl, HA, HK, BK2, HB⟩ := hrel
      cases gk with
      | zero => exact absurd HA.out (by simp [tree_Valid.l0])
      | succ k3 =>
        have H := HA.out
        clear HA
        simp only [tree_Valid.l0] at H
        by_cases c1 : i < (l.length : Int)
        · rw [if_pos c1] at H
          by_cases c2 : 0 ≤ i
          · rw [if_pos c2] at H
            have c1b : decide (i < (l.length : Int)) = true := decide_eq_true c1
            have c2b : decide (0 ≤ i) = true := decide_eq_true c2
            obtain ⟨ad, e2, hx0, hx1, hx2, hx3⟩ := at_T47 (Kd.C_below HR.out HB.out) i c2 c1
            subst e2
            replace c1 := eq_true c1
            replace c2 := eq_true c2
            obtain ⟨y, hy⟩ : ∃ y, rd_T47 l i = y := ⟨_, rfl⟩
            rw [hy] at hx0 hx1 hx2 hx3 H
            clear hy
            have hcz2 : wr.cell? ⟨g2, 0, none⟩ = some (.slice (some ad) l.length c) := (blk_cell BK2.out 0).trans rfl
            by_cases c3 : y.f1 < 0
            · rw [if_pos c3] at H
              have c3b : decide (y.f1 < 0) = true := decide_eq_true c3
              clear c3
              obtain rfl := Option.some.inj H
              go_wp2
              go_ret
              exact ⟨rfl, by repeat (first | exact HB.out | apply below_drew1 | apply pw_below_drewN | apply below_alloc)⟩
            · rw [if_neg c3] at H
              have c3b : decide (y.f1 < 0) = false := decide_eq_false c3
              clear c3
              by_cases c4 : y.f2 < y.f1
              · rw [if_pos c4] at H
                have c4b : decide (y.f2 < y.f1) = true := decide_eq_true c4
                clear c4
                obtain rfl := Option.some.inj H
                go_wp2
                go_ret
                exact ⟨rfl, by repeat (first | exact HB.out | apply below_drew1 | apply pw_below_drewN | apply below_alloc)⟩
              · rw [if_neg c4] at H
                have c4b : decide (y.f2 < y.f1) = false := decide_eq_false c4
                clear c4
                by_cases c5 : y.f2 > q
                · rw [if_pos c5] at H
                  have c5b : decide (q < y.f2) = true := decide_eq_true c5
                  clear c5
                  obtain rfl := Option.some.inj H
                  go_wp2
                  go_ret
                  exact ⟨rfl, by repeat (first | exact HB.out | apply below_drew1 | apply pw_below_drewN | apply below_alloc)⟩
                · rw [if_neg c5] at H
                  have c5b : decide (q < y.f2) = false := decide_eq_false c5
                  clear c5
                  have B3 : Below wr.heap.size wr (((wr.alloc (.cells #[.int .u8 y.f0, .int .i64 y.f1, .int .i64 y.f2, .int .i64 y.f3] 47)).alloc (.cells #[.int .i64 y.f1] 3)).alloc (.cells #[.bool true] 4)) := below_alloc (below_alloc (below_alloc (Below.refl _ _) _) _) _
                  have L2 := Aside0.mk (blk_below BK2.out B3)
                  have lx0 := heap_alloc_new wr (.cells #[.int .u8 y.f0, .int .i64 y.f1, .int .i64 y.f2, .int .i64 y.f3] 47)
                  have LX := Aside0.mk (blk_below (blk_below lx0 (below_alloc (Below.refl _ _) (.cells #[.int .i64 y.f1] 3))) (below_alloc (Below.refl _ _) (.cells #[.bool true] 4)))
                  have la0 := heap_alloc_new (wr.alloc (.cells #[.int .u8 y.f0, .int .i64 y.f1, .int .i64 y.f2, .int .i64 y.f3] 47)) (.cells #[.int .i64 y.f1] 3)
                  rw [World.size_alloc] at la0
                  have LA := Aside0.mk (blk_below la0 (below_alloc (Below.refl _ _) (.cells #[.bool true] 4)))
                  have lg0 := heap_alloc_new ((wr.alloc (.cells #[.int .u8 y.f0, .int .i64 y.f1, .int .i64 y.f2, .int .i64 y.f3] 47)).alloc (.cells #[.int .i64 y.f1] 3)) (.cells #[.bool true] 4)
                  rw [World.size_alloc, World.size_alloc] at lg0
                  have LG := Aside0.mk lg0
                  have GLT := Aside0.mk (blk_lt BK2.out)
                  have LB := Aside0.mk (show Below w.heap.size w (((wr.alloc (.cells #[.int .u8 y.f0, .int .i64 y.f1, .int .i64 y.f2, .int .i64 y.f3] 47)).alloc (.cells #[.int .i64 y.f1] 3)).alloc (.cells #[.bool true] 4)) from below_step HB.out B3)
                  have HSZ := Aside0.mk HB.out.size
                  have hczg2 : (((wr.alloc (.cells #[.int .u8 y.f0, .int .i64 y.f1, .int .i64 y.f2, .int .i64 y.f3] 47)).alloc (.cells #[.int .i64 y.f1] 3)).alloc (.cells #[.bool true] 4)).cell? ⟨g2, 0, none⟩ = some (.slice (some ad) l.length c) := (blk_cell L2.out 0).trans rfl
                  clear B3 lx0 la0 lg0
                  go_wp2_with fail
                  obtain ⟨⟨ks, ok⟩, hk, H⟩ := Option.bind_eq_some_iff.1 H
                  refine (kids.calls 61 #[.pointer (some ⟨g2, 0, none⟩), .pointer (some ⟨(wr.heap.size + 1 + 1), 0, none⟩), .pointer (some ⟨wr.heap.size, 0, none⟩), .pointer (some ⟨(wr.heap.size + 1), 0, none⟩)] EG'.out (ValJ l y (wr.heap.size + 1 + 1) (wr.heap.size + 1) g2 wr.heap.size (.slice (some ad) l.length c)) k3 (some ad) c l i ks ok w _ HR.out HC.out LB.out hk ?h0 ?hal ?hY).mono ?_
                  case h0 =>
                    intro gb hgb
                    have e1 := blk_lt LG.out
                    have e2 := GLT.out
                    exact ⟨by omega, by omega, by omega, by omega, by omega, by omega, L2.out, LX.out, LG.out, LA.out⟩
                  case hal =>
                    rintro gb pre W W' ⟨h1, h2, h3, h4, h5, h6, h7, h8, h9, h10⟩ hb
                    exact ⟨h1, h2, h3, h4, h5, h6, blk_below h7 hb, blk_below h8 hb, blk_below h9 hb, blk_below h10 hb⟩
                  case hY =>
                    rintro gb pre x W hp h0 h1 ⟨j1, j2, j3, j4, j5, j6, j7, j8, j9, j10⟩ hge hlt hbW
                    refine (valid1.calls x l (some ad) c y (vfold l y pre).1 (vfold l y pre).2 g2 (wr.heap.size + 1 + 1) wr.heap.size (wr.heap.size + 1) w W j7 j9 j8 j10 (Kd.C_below HR.out hbW) h0 h1 hbW (by have := HSZ.out; omega) (by have := HSZ.out; omega)).mono ?_
                    rintro e w' ⟨hv, b1, b2, b3, b4⟩
                    rw [← vfold_snoc] at b1 b2
                    exact ⟨hv, ⟨j1, j2, j3, j4, j5, j6, (b3 _ (blk_lt j7) j3 j4).trans j7, (b3 _ (blk_lt j8) j5 j6).trans j8, b1, b2⟩, b3 gb hlt j1 j2, b4⟩
                  rintro e w7 ⟨rfl, ⟨gb, hj⟩, hb3⟩
                  obtain ⟨j1, j2, j3, j4, j5, j6, j7, j8, j9, j10⟩ := hj
                  have M2 := Aside0.mk j7
                  have MG := Aside0.mk j9
                  have MB := Aside0.mk hb3
                  have HE := Aside0.mk H
                  clear j1 j2 j3 j4 j5 j6 j7 j8 j9 j10 hb3 hczg2 hcz2 hx0 hx1 hx2 hx3 L2 LX LA LG LB BK2 HB hk H
                  have hcz2 : w7.cell? ⟨g2, 0, none⟩ = some (.slice (some ad) l.length c) := (blk_cell M2.out 0).trans rfl
                  by_cases c6 : (vfold l y ks).1 = true
                  · have H' := Aside0.mk (show tree_Valid.l0 k3 l q (wrap64 (i + 1)) = some r by simpa [c6] using HE.out)
                    have hczg : w7.cell? ⟨(wr.heap.size + 1 + 1), 0, none⟩ = some (.bool true) := by rw [← c6]; exact (blk_cell MG.out 0).trans rfl
                    clear c6
                    go_wp2
                    go_roundg k3
                    case measure => have := HK.out; omega
                    case rel => exact ⟨wrap64 (i + 1), by first | rfl | simp, H', ⟨by have := HK.out; omega⟩, M2, MB⟩
                  · have he : some false = some r := by simpa [c6] using HE.out
                    obtain rfl := Option.some.inj he
                    have c7 : (vfold l y ks).1 = false := by simpa using c6
                    have hczg : w7.cell? ⟨(wr.heap.size + 1 + 1), 0, none⟩ = some (.bool false) := by rw [← c7]; exact (blk_cell MG.out 0).trans rfl
                    clear c6 c7 he
                    go_wp2
                    go_ret
                    exact ⟨rfl, MB.out⟩
          · rw [if_neg c2] at H
            exact absurd H (by simp)
        · rw [if_neg c1] at H
          have c1b : decide (i < (l.length : Int)) = false := decide_eq_false c1
          clear c1
          obtain rfl := Option.some.inj H
          go_wp2
          go_ret
          exact ⟨rfl, by repeat (first | exact HB.out | apply below_drew1 | apply pw_below_drewN | apply below_alloc)⟩
end Go.Proofs.Ytodldpdnhcafpaa.F
