/- Texts of the proof of one law (Family), part 0: functions printed as Lean functions with their walks, and what is proved of them. Conditions: those of each theorem. -/
import Derived.Test.YtodldpdnhcafpaaProg
import Derived.Below
import Derived.Deep.Draws
import Derived.Deep.AppendLies
import Derived.Maps.AppendAt
import Derived.OwnWalk
import Derived.Laws.BytesArg
import Derived.Laws.MakeOwn
import Derived.Laws.OwnMore
import Derived.Deep.OwnRows
import Derived.Tactics
import Derived.Lib.ConvBytes
import Derived.Laws.Slices
import Derived.WalkKit
import Derived.KernelRfl
import Derived.RowKit3
import Derived.Deep.LoopGhost
import Derived.Deep.QuietTactic
import Derived.BigQuiet
import Derived.WideLaws
import Derived.Deep.DeepCutAuto
import Derived.Deep.CutBlock
import Derived.Deep.RegionHeld3
import Derived.Laws.Rows
import Derived.Lib.AppendStr
import Derived.ArgAppend
import Derived.Laws.IdiomCopy
import Derived.OrdersHeld
import Derived.Laws.BitsLemmas
import Derived.WalkMore
import Derived.RowKit
import Derived.Test.YtodldpdnhcafpaaWWords
import Derived.Test.YtodldpdnhcafpaaWLast
import Derived.Test.YtodldpdnhcafpaaWTab
import Derived.Test.YtodldpdnhcafpaaWFour
import Derived.Test.YtodldpdnhcafpaaWQPut
import Derived.Test.YtodldpdnhcafpaaWApart
import Derived.Test.YtodldpdnhcafpaaWArr
import Derived.Test.YtodldpdnhcafpaaWZeros
import Derived.Test.YtodldpdnhcafpaaWFoot
import Derived.Test.YtodldpdnhcafpaaWKept
import Derived.Test.YtodldpdnhcafpaaWShare
import Derived.Test.YtodldpdnhcafpaaWN
import Derived.Test.YtodldpdnhcafpaaWFootNe
import Derived.Test.YtodldpdnhcafpaaWAt
import Derived.Test.YtodldpdnhcafpaaWEqStruct
import Derived.Test.YtodldpdnhcafpaaWRepsOne
import Derived.Test.YtodldpdnhcafpaaWInv
import Derived.Test.YtodldpdnhcafpaaWInvWords
import Derived.Test.YtodldpdnhcafpaaWGuard
import Derived.Test.YtodldpdnhcafpaaWNEv
import Derived.Test.YtodldpdnhcafpaaWMore
import Derived.RangeFuncNested
import Derived.RangeFuncBound
import Derived.RangeFuncCalls
import Derived.RangeFuncLeaves
import Derived.RangeFuncBox
import Derived.Shelf.Abstract
import Derived.Shelf.RegionOpen
import Derived.OwnWalkIn
import Derived.TacticsInMore
import Derived.LoopNIn
import Derived.LoopIn
import Derived.OrdersIn
-- A text of this session's own program (wip/myprint.sh over a changed print tool): functions and their walks
namespace Go.Proofs.Ytodldpdnhcafpaa.F
open Go.RowKit Go.Proofs.YtodldpdnhcafpaaW.PrintWords Go.Proofs.YtodldpdnhcafpaaW.PrintLast Go.Proofs.YtodldpdnhcafpaaW.PrintMore
attribute [local go_sem] max2_int min2_int max_two min_two max_three min_three max_four min_four   -- for this text's walks alone
set_option linter.unusedVariables false
set_option linter.unusedSimpArgs false



def errW : Option Int → Value
  | none => .nilIface
  | some c => .iface 0 (.int .i64 c)
theorem errW_none : errW none = .nilIface := rfl
theorem errW_some (c : Int) : errW (some c) = .iface 0 (.int .i64 c) := rfl

theorem info3 : (Try.prog.info? 3).map (fun i => (i.zero, i.size, i.bytes)) = some (some (.int .i64 0), 1, 8) := by kernel_rfl
-- the values' own types
/-! #### struct type 61 -/
structure S61 where
  f0 : Int
  f1 : Int
  f2 : Int
def k61 : Kd S61 := Kd.iso (Kd.pair (Kd.int .u8) (Kd.pair (Kd.int .i64) (Kd.int .i64))) (fun x : S61 => (x.f0, x.f1, x.f2))
theorem k61_mk (w : World) (x : S61)  : k61.K w x [.int .u8 x.f0, .int .i64 x.f1, .int .i64 x.f2] := ⟨[.int .u8 x.f0], [.int .i64 x.f1, .int .i64 x.f2], rfl, rfl, ⟨[.int .i64 x.f1], [.int .i64 x.f2], rfl, rfl, rfl⟩⟩
/-! #### struct type 47 -/
structure S47 where
  f0 : Int
  f1 : Int
  f2 : Int
  f3 : Int
def z47 : S47 := ⟨(0 : Int), (0 : Int), (0 : Int), (0 : Int)⟩
def k47 : Kd S47 := Kd.iso (Kd.pair (Kd.int .u8) (Kd.pair (Kd.int .i64) (Kd.pair (Kd.int .i64) (Kd.int .i64)))) (fun x : S47 => (x.f0, x.f1, x.f2, x.f3))
theorem k47_open {w : World} {x : S47} {cs : List Value} (h : k47.K w x cs) : cs = [.int .u8 x.f0, .int .i64 x.f1, .int .i64 x.f2, .int .i64 x.f3] := by
  obtain ⟨_, _, rfl, rfl, ⟨_, _, rfl, rfl, ⟨_, _, rfl, rfl, rfl⟩⟩⟩ := h
  exact rfl
theorem k47_mk (w : World) (x : S47)  : k47.K w x [.int .u8 x.f0, .int .i64 x.f1, .int .i64 x.f2, .int .i64 x.f3] := ⟨[.int .u8 x.f0], [.int .i64 x.f1, .int .i64 x.f2, .int .i64 x.f3], rfl, rfl, ⟨[.int .i64 x.f1], [.int .i64 x.f2, .int .i64 x.f3], rfl, rfl, ⟨[.int .i64 x.f2], [.int .i64 x.f3], rfl, rfl, rfl⟩⟩⟩
def rd_T47 (xs : List S47) (i : Int) : S47 := xs.getD i.toNat z47
theorem at_T47 {w : World} {A : Option Addr} {n : Nat} {xs : List S47} (h : Kd.C k47 w A n xs) (i : Int) (h0 : 0 ≤ i) (h1 : i < n) : ∃ ad , A = some ad ∧ w.cell? (ad.add (i.toNat * 4)) = some (.int .u8 (rd_T47 xs i).f0) ∧ w.cell? ⟨(ad.add (i.toNat * 4)).block, (ad.add (i.toNat * 4)).off + 1, none⟩ = some (.int .i64 (rd_T47 xs i).f1) ∧ w.cell? ⟨(ad.add (i.toNat * 4)).block, (ad.add (i.toNat * 4)).off + 2, none⟩ = some (.int .i64 (rd_T47 xs i).f2) ∧ w.cell? ⟨(ad.add (i.toNat * 4)).block, (ad.add (i.toNat * 4)).off + 3, none⟩ = some (.int .i64 (rd_T47 xs i).f3) := by
  obtain ⟨ad, c, e, _, hK, hc0⟩ := Kd.C_get h z47 i h0 h1
  have hc : ∀ j u, c[j]? = some u → w.cell? (ad.add (i.toNat * 4 + j)) = some u := hc0
  obtain rfl := k47_open hK
  exact ⟨ad, e, hc 0 _ rfl, by rw [← add_field _ _ 1 (by omega)]; exact hc 1 _ rfl, by rw [← add_field _ _ 2 (by omega)]; exact hc 2 _ rfl, by rw [← add_field _ _ 3 (by omega)]; exact hc 3 _ rfl⟩

end Go.Proofs.Ytodldpdnhcafpaa.F

-- A text of this session's own program (wip/myprint.sh over a changed print tool): functions and their walks
namespace Go.Proofs.Ytodldpdnhcafpaa.F
open Go.RowKit Go.Proofs.YtodldpdnhcafpaaW.PrintWords Go.Proofs.YtodldpdnhcafpaaW.PrintLast Go.Proofs.YtodldpdnhcafpaaW.PrintMore
attribute [local go_sem] max2_int min2_int max_two min_two max_three min_three max_four min_four   -- for this text's walks alone
set_option linter.unusedVariables false
set_option linter.unusedSimpArgs false

/-! ### tree_sized: function 51 -/
def tree_sized.f (l0_0 : List (S47)) (a1 : Int) : Option (Bool) := if a1 ≥ 0 then (if a1 < (l0_0.length : Int) then (if 0 ≤ a1 then (if ((rd_T47 l0_0 a1).f3) ≥ 1 then (some (decide (((rd_T47 l0_0 a1).f3) ≤ (wrap64 ((l0_0.length : Int) - a1))))) else (some false)) else (none)) else (some false)) else (some false)
set_option maxHeartbeats 8000000 in
set_option maxRecDepth 100000 in
theorem tree_sized.calls (A0_0 : Option Addr) (c0_0 : Nat) (l0_0 : List (S47)) (a1 : Int) (r : Bool) (w : World) (hr0_0 : Kd.C k47 w A0_0 l0_0.length l0_0) (hc0_0 : l0_0.length ≤ c0_0) (h : tree_sized.f l0_0 a1 = some r) :
    Calls Try.prog 51 #[.agg #[.slice A0_0 l0_0.length c0_0], .int .i64 a1] w fun e w' => e = .returned (.bool r) ∧ Below w.heap.size w w' := by
  have hu25 := Try.underlying25
  have HR0_0 := Aside0.mk hr0_0
  have HC0_0 := Aside0.mk hc0_0
  clear hr0_0 hc0_0
  have HB := Aside0.mk (Below.refl w.heap.size w)
  have H : (if a1 ≥ 0 then (if a1 < (l0_0.length : Int) then (if 0 ≤ a1 then (if ((rd_T47 l0_0 a1).f3) ≥ 1 then (some (decide (((rd_T47 l0_0 a1).f3) ≤ (wrap64 ((l0_0.length : Int) - a1))))) else (some false)) else (none)) else (some false)) else (some false)) = some r := h
  clear h
  by_cases c3 : a1 ≥ 0
  · rw [if_pos c3] at H
    have c3b0 : decide (0 ≤ a1) = true := decide_eq_true c3
    clear c3
    by_cases c4 : a1 < (l0_0.length : Int)
    · rw [if_pos c4] at H
      have c4b0 : decide (a1 < (l0_0.length : Int)) = true := decide_eq_true c4
      clear c4
      by_cases c5 : 0 ≤ a1
      · rw [if_pos c5] at H
        have c5b0 : decide (0 ≤ a1) = true := decide_eq_true c5
        clear c5
        by_cases c6 : ((rd_T47 l0_0 a1).f3) ≥ 1
        · rw [if_pos c6] at H
          have c6b0 : decide (1 ≤ ((rd_T47 l0_0 a1).f3)) = true := decide_eq_true c6
          clear c6
          obtain rfl := Option.some.inj H
          go_enter Try.func51, Try.ntmps51
          go_wp2_with (first | ((with_reducible refine gate_dst (N := 2) rfl ?_); (try (refine gate_guard (by rfl) ?_; dsimp only)); refine box_event ?hg (N := 2) ?hd (cs := #[.slice A0_0 l0_0.length c0_0]) (t := 25) ?hr ?_; (case hd => rfl); (case hg => rfl); (case hr => first | (go_simp; done) | (go_simp; rfl)); intro gb219 hg w7 hbox hb; have n0_ := Aside0.mk (below_step (by repeat (first | (with_reducible first | exact HB.out | apply below_alloc | apply pw_below_drewN | apply below_drew1) | exact HB.out)) hb); have n1_ := Aside0.mk (hbox); have n2_ := Aside0.mk ((by rw [hg]; exact (below_size (by repeat (first | (with_reducible first | exact HB.out | apply below_alloc | apply pw_below_drewN | apply below_drew1) | exact HB.out))) : w.heap.size ≤ gb219)); have n3_ := Aside0.mk ((by rw [hg]; exact (below_size (by repeat (first | (with_reducible first | exact HB.out | apply below_alloc | apply pw_below_drewN | apply below_drew1) | exact HB.out))) : w.heap.size ≤ gb219)); clear HB; have HB := n0_; have BK219 := n1_; have GW219 := n2_; have GE219 := n3_; clear n0_ n1_ n2_ n3_; clear hb hbox hg; have hcz8_0 : w7.cell? ⟨gb219, 0, none⟩ = some (.slice A0_0 l0_0.length c0_0) := (blk_cell BK219.out 0).trans rfl; have hfz8_0 := blk_frozen BK219.out 0; have p220 : 0 ≤ (a1 : Int) := of_decide_eq_true (by first | (with_reducible assumption) | assumption); have q220 : a1 < (l0_0.length : Int) := of_decide_eq_true (by first | (with_reducible assumption) | assumption); obtain ⟨ad220, e220, hx220_0, hx220_1, hx220_2, hx220_3⟩ := at_T47 HR0_0.out a1 p220 q220; cases e220; replace hx220_0 := (HB.out.cell (World.block_lt_of_cell? w _ hx220_0)).trans hx220_0; replace hx220_1 := (HB.out.cell (World.block_lt_of_cell? w _ hx220_1)).trans hx220_1; replace hx220_2 := (HB.out.cell (World.block_lt_of_cell? w _ hx220_2)).trans hx220_2; replace hx220_3 := (HB.out.cell (World.block_lt_of_cell? w _ hx220_3)).trans hx220_3; replace p220 := eq_true p220; replace q220 := eq_true q220; have p221 : 0 ≤ (a1 : Int) := of_decide_eq_true (by first | (with_reducible assumption) | assumption); have q221 : a1 < (l0_0.length : Int) := of_decide_eq_true (by first | (with_reducible assumption) | assumption); obtain ⟨ad221, e221, hx221_0, hx221_1, hx221_2, hx221_3⟩ := at_T47 HR0_0.out a1 p221 q221; obtain rfl : ad220 = ad221 := (by injection e221); replace hx221_0 := (HB.out.cell (World.block_lt_of_cell? w _ hx221_0)).trans hx221_0; replace hx221_1 := (HB.out.cell (World.block_lt_of_cell? w _ hx221_1)).trans hx221_1; replace hx221_2 := (HB.out.cell (World.block_lt_of_cell? w _ hx221_2)).trans hx221_2; replace hx221_3 := (HB.out.cell (World.block_lt_of_cell? w _ hx221_3)).trans hx221_3; replace p221 := eq_true p221; replace q221 := eq_true q221))
          repeat (go_quiet (first | ((with_reducible refine gate_dst (N := 2) rfl ?_); (try (refine gate_guard (by rfl) ?_; dsimp only)); refine box_event ?hg (N := 2) ?hd (cs := #[.slice A0_0 l0_0.length c0_0]) (t := 25) ?hr ?_; (case hd => rfl); (case hg => rfl); (case hr => first | (go_simp; done) | (go_simp; rfl)); intro gb219 hg w7 hbox hb; have n0_ := Aside0.mk (below_step (by repeat (first | (with_reducible first | exact HB.out | apply below_alloc | apply pw_below_drewN | apply below_drew1) | exact HB.out)) hb); have n1_ := Aside0.mk (hbox); have n2_ := Aside0.mk ((by rw [hg]; exact (below_size (by repeat (first | (with_reducible first | exact HB.out | apply below_alloc | apply pw_below_drewN | apply below_drew1) | exact HB.out))) : w.heap.size ≤ gb219)); have n3_ := Aside0.mk ((by rw [hg]; exact (below_size (by repeat (first | (with_reducible first | exact HB.out | apply below_alloc | apply pw_below_drewN | apply below_drew1) | exact HB.out))) : w.heap.size ≤ gb219)); clear HB; have HB := n0_; have BK219 := n1_; have GW219 := n2_; have GE219 := n3_; clear n0_ n1_ n2_ n3_; clear hb hbox hg; have hcz8_0 : w7.cell? ⟨gb219, 0, none⟩ = some (.slice A0_0 l0_0.length c0_0) := (blk_cell BK219.out 0).trans rfl; have hfz8_0 := blk_frozen BK219.out 0; have p220 : 0 ≤ (a1 : Int) := of_decide_eq_true (by first | (with_reducible assumption) | assumption); have q220 : a1 < (l0_0.length : Int) := of_decide_eq_true (by first | (with_reducible assumption) | assumption); obtain ⟨ad220, e220, hx220_0, hx220_1, hx220_2, hx220_3⟩ := at_T47 HR0_0.out a1 p220 q220; cases e220; replace hx220_0 := (HB.out.cell (World.block_lt_of_cell? w _ hx220_0)).trans hx220_0; replace hx220_1 := (HB.out.cell (World.block_lt_of_cell? w _ hx220_1)).trans hx220_1; replace hx220_2 := (HB.out.cell (World.block_lt_of_cell? w _ hx220_2)).trans hx220_2; replace hx220_3 := (HB.out.cell (World.block_lt_of_cell? w _ hx220_3)).trans hx220_3; replace p220 := eq_true p220; replace q220 := eq_true q220; have p221 : 0 ≤ (a1 : Int) := of_decide_eq_true (by first | (with_reducible assumption) | assumption); have q221 : a1 < (l0_0.length : Int) := of_decide_eq_true (by first | (with_reducible assumption) | assumption); obtain ⟨ad221, e221, hx221_0, hx221_1, hx221_2, hx221_3⟩ := at_T47 HR0_0.out a1 p221 q221; obtain rfl : ad220 = ad221 := (by injection e221); replace hx221_0 := (HB.out.cell (World.block_lt_of_cell? w _ hx221_0)).trans hx221_0; replace hx221_1 := (HB.out.cell (World.block_lt_of_cell? w _ hx221_1)).trans hx221_1; replace hx221_2 := (HB.out.cell (World.block_lt_of_cell? w _ hx221_2)).trans hx221_2; replace hx221_3 := (HB.out.cell (World.block_lt_of_cell? w _ hx221_3)).trans hx221_3; replace p221 := eq_true p221; replace q221 := eq_true q221)); try go_wp2_with (first | ((with_reducible refine gate_dst (N := 2) rfl ?_); (try (refine gate_guard (by rfl) ?_; dsimp only)); refine box_event ?hg (N := 2) ?hd (cs := #[.slice A0_0 l0_0.length c0_0]) (t := 25) ?hr ?_; (case hd => rfl); (case hg => rfl); (case hr => first | (go_simp; done) | (go_simp; rfl)); intro gb219 hg w7 hbox hb; have n0_ := Aside0.mk (below_step (by repeat (first | (with_reducible first | exact HB.out | apply below_alloc | apply pw_below_drewN | apply below_drew1) | exact HB.out)) hb); have n1_ := Aside0.mk (hbox); have n2_ := Aside0.mk ((by rw [hg]; exact (below_size (by repeat (first | (with_reducible first | exact HB.out | apply below_alloc | apply pw_below_drewN | apply below_drew1) | exact HB.out))) : w.heap.size ≤ gb219)); have n3_ := Aside0.mk ((by rw [hg]; exact (below_size (by repeat (first | (with_reducible first | exact HB.out | apply below_alloc | apply pw_below_drewN | apply below_drew1) | exact HB.out))) : w.heap.size ≤ gb219)); clear HB; have HB := n0_; have BK219 := n1_; have GW219 := n2_; have GE219 := n3_; clear n0_ n1_ n2_ n3_; clear hb hbox hg; have hcz8_0 : w7.cell? ⟨gb219, 0, none⟩ = some (.slice A0_0 l0_0.length c0_0) := (blk_cell BK219.out 0).trans rfl; have hfz8_0 := blk_frozen BK219.out 0; have p220 : 0 ≤ (a1 : Int) := of_decide_eq_true (by first | (with_reducible assumption) | assumption); have q220 : a1 < (l0_0.length : Int) := of_decide_eq_true (by first | (with_reducible assumption) | assumption); obtain ⟨ad220, e220, hx220_0, hx220_1, hx220_2, hx220_3⟩ := at_T47 HR0_0.out a1 p220 q220; cases e220; replace hx220_0 := (HB.out.cell (World.block_lt_of_cell? w _ hx220_0)).trans hx220_0; replace hx220_1 := (HB.out.cell (World.block_lt_of_cell? w _ hx220_1)).trans hx220_1; replace hx220_2 := (HB.out.cell (World.block_lt_of_cell? w _ hx220_2)).trans hx220_2; replace hx220_3 := (HB.out.cell (World.block_lt_of_cell? w _ hx220_3)).trans hx220_3; replace p220 := eq_true p220; replace q220 := eq_true q220; have p221 : 0 ≤ (a1 : Int) := of_decide_eq_true (by first | (with_reducible assumption) | assumption); have q221 : a1 < (l0_0.length : Int) := of_decide_eq_true (by first | (with_reducible assumption) | assumption); obtain ⟨ad221, e221, hx221_0, hx221_1, hx221_2, hx221_3⟩ := at_T47 HR0_0.out a1 p221 q221; obtain rfl : ad220 = ad221 := (by injection e221); replace hx221_0 := (HB.out.cell (World.block_lt_of_cell? w _ hx221_0)).trans hx221_0; replace hx221_1 := (HB.out.cell (World.block_lt_of_cell? w _ hx221_1)).trans hx221_1; replace hx221_2 := (HB.out.cell (World.block_lt_of_cell? w _ hx221_2)).trans hx221_2; replace hx221_3 := (HB.out.cell (World.block_lt_of_cell? w _ hx221_3)).trans hx221_3; replace p221 := eq_true p221; replace q221 := eq_true q221)))
          go_ret
          exact ⟨by first | rfl | (simp [errW_none, errW_some] <;> rfl) | (simp [*, errW_none, errW_some] <;> rfl), by repeat (first | (with_reducible first | exact HB.out | apply below_alloc | apply pw_below_drewN | apply below_drew1 | refine below_set ?_ GE219.out) | exact HB.out)⟩
        · rw [if_neg c6] at H
          have c6b0 : decide (1 ≤ ((rd_T47 l0_0 a1).f3)) = false := decide_eq_false c6
          clear c6
          obtain rfl := Option.some.inj H
          go_enter Try.func51, Try.ntmps51
          go_wp2_with (first | ((with_reducible refine gate_dst (N := 2) rfl ?_); (try (refine gate_guard (by rfl) ?_; dsimp only)); refine box_event ?hg (N := 2) ?hd (cs := #[.slice A0_0 l0_0.length c0_0]) (t := 25) ?hr ?_; (case hd => rfl); (case hg => rfl); (case hr => first | (go_simp; done) | (go_simp; rfl)); intro gb219 hg w9 hbox hb; have n0_ := Aside0.mk (below_step (by repeat (first | (with_reducible first | exact HB.out | apply below_alloc | apply pw_below_drewN | apply below_drew1) | exact HB.out)) hb); have n1_ := Aside0.mk (hbox); have n2_ := Aside0.mk ((by rw [hg]; exact (below_size (by repeat (first | (with_reducible first | exact HB.out | apply below_alloc | apply pw_below_drewN | apply below_drew1) | exact HB.out))) : w.heap.size ≤ gb219)); have n3_ := Aside0.mk ((by rw [hg]; exact (below_size (by repeat (first | (with_reducible first | exact HB.out | apply below_alloc | apply pw_below_drewN | apply below_drew1) | exact HB.out))) : w.heap.size ≤ gb219)); clear HB; have HB := n0_; have BK219 := n1_; have GW219 := n2_; have GE219 := n3_; clear n0_ n1_ n2_ n3_; clear hb hbox hg; have hcz10_0 : w9.cell? ⟨gb219, 0, none⟩ = some (.slice A0_0 l0_0.length c0_0) := (blk_cell BK219.out 0).trans rfl; have hfz10_0 := blk_frozen BK219.out 0; have p220 : 0 ≤ (a1 : Int) := of_decide_eq_true (by first | (with_reducible assumption) | assumption); have q220 : a1 < (l0_0.length : Int) := of_decide_eq_true (by first | (with_reducible assumption) | assumption); obtain ⟨ad220, e220, hx220_0, hx220_1, hx220_2, hx220_3⟩ := at_T47 HR0_0.out a1 p220 q220; cases e220; replace hx220_0 := (HB.out.cell (World.block_lt_of_cell? w _ hx220_0)).trans hx220_0; replace hx220_1 := (HB.out.cell (World.block_lt_of_cell? w _ hx220_1)).trans hx220_1; replace hx220_2 := (HB.out.cell (World.block_lt_of_cell? w _ hx220_2)).trans hx220_2; replace hx220_3 := (HB.out.cell (World.block_lt_of_cell? w _ hx220_3)).trans hx220_3; replace p220 := eq_true p220; replace q220 := eq_true q220))
          repeat (go_quiet (first | ((with_reducible refine gate_dst (N := 2) rfl ?_); (try (refine gate_guard (by rfl) ?_; dsimp only)); refine box_event ?hg (N := 2) ?hd (cs := #[.slice A0_0 l0_0.length c0_0]) (t := 25) ?hr ?_; (case hd => rfl); (case hg => rfl); (case hr => first | (go_simp; done) | (go_simp; rfl)); intro gb219 hg w9 hbox hb; have n0_ := Aside0.mk (below_step (by repeat (first | (with_reducible first | exact HB.out | apply below_alloc | apply pw_below_drewN | apply below_drew1) | exact HB.out)) hb); have n1_ := Aside0.mk (hbox); have n2_ := Aside0.mk ((by rw [hg]; exact (below_size (by repeat (first | (with_reducible first | exact HB.out | apply below_alloc | apply pw_below_drewN | apply below_drew1) | exact HB.out))) : w.heap.size ≤ gb219)); have n3_ := Aside0.mk ((by rw [hg]; exact (below_size (by repeat (first | (with_reducible first | exact HB.out | apply below_alloc | apply pw_below_drewN | apply below_drew1) | exact HB.out))) : w.heap.size ≤ gb219)); clear HB; have HB := n0_; have BK219 := n1_; have GW219 := n2_; have GE219 := n3_; clear n0_ n1_ n2_ n3_; clear hb hbox hg; have hcz10_0 : w9.cell? ⟨gb219, 0, none⟩ = some (.slice A0_0 l0_0.length c0_0) := (blk_cell BK219.out 0).trans rfl; have hfz10_0 := blk_frozen BK219.out 0; have p220 : 0 ≤ (a1 : Int) := of_decide_eq_true (by first | (with_reducible assumption) | assumption); have q220 : a1 < (l0_0.length : Int) := of_decide_eq_true (by first | (with_reducible assumption) | assumption); obtain ⟨ad220, e220, hx220_0, hx220_1, hx220_2, hx220_3⟩ := at_T47 HR0_0.out a1 p220 q220; cases e220; replace hx220_0 := (HB.out.cell (World.block_lt_of_cell? w _ hx220_0)).trans hx220_0; replace hx220_1 := (HB.out.cell (World.block_lt_of_cell? w _ hx220_1)).trans hx220_1; replace hx220_2 := (HB.out.cell (World.block_lt_of_cell? w _ hx220_2)).trans hx220_2; replace hx220_3 := (HB.out.cell (World.block_lt_of_cell? w _ hx220_3)).trans hx220_3; replace p220 := eq_true p220; replace q220 := eq_true q220)); try go_wp2_with (first | ((with_reducible refine gate_dst (N := 2) rfl ?_); (try (refine gate_guard (by rfl) ?_; dsimp only)); refine box_event ?hg (N := 2) ?hd (cs := #[.slice A0_0 l0_0.length c0_0]) (t := 25) ?hr ?_; (case hd => rfl); (case hg => rfl); (case hr => first | (go_simp; done) | (go_simp; rfl)); intro gb219 hg w9 hbox hb; have n0_ := Aside0.mk (below_step (by repeat (first | (with_reducible first | exact HB.out | apply below_alloc | apply pw_below_drewN | apply below_drew1) | exact HB.out)) hb); have n1_ := Aside0.mk (hbox); have n2_ := Aside0.mk ((by rw [hg]; exact (below_size (by repeat (first | (with_reducible first | exact HB.out | apply below_alloc | apply pw_below_drewN | apply below_drew1) | exact HB.out))) : w.heap.size ≤ gb219)); have n3_ := Aside0.mk ((by rw [hg]; exact (below_size (by repeat (first | (with_reducible first | exact HB.out | apply below_alloc | apply pw_below_drewN | apply below_drew1) | exact HB.out))) : w.heap.size ≤ gb219)); clear HB; have HB := n0_; have BK219 := n1_; have GW219 := n2_; have GE219 := n3_; clear n0_ n1_ n2_ n3_; clear hb hbox hg; have hcz10_0 : w9.cell? ⟨gb219, 0, none⟩ = some (.slice A0_0 l0_0.length c0_0) := (blk_cell BK219.out 0).trans rfl; have hfz10_0 := blk_frozen BK219.out 0; have p220 : 0 ≤ (a1 : Int) := of_decide_eq_true (by first | (with_reducible assumption) | assumption); have q220 : a1 < (l0_0.length : Int) := of_decide_eq_true (by first | (with_reducible assumption) | assumption); obtain ⟨ad220, e220, hx220_0, hx220_1, hx220_2, hx220_3⟩ := at_T47 HR0_0.out a1 p220 q220; cases e220; replace hx220_0 := (HB.out.cell (World.block_lt_of_cell? w _ hx220_0)).trans hx220_0; replace hx220_1 := (HB.out.cell (World.block_lt_of_cell? w _ hx220_1)).trans hx220_1; replace hx220_2 := (HB.out.cell (World.block_lt_of_cell? w _ hx220_2)).trans hx220_2; replace hx220_3 := (HB.out.cell (World.block_lt_of_cell? w _ hx220_3)).trans hx220_3; replace p220 := eq_true p220; replace q220 := eq_true q220)))
          go_ret
          exact ⟨by first | rfl | (simp [errW_none, errW_some] <;> rfl) | (simp [*, errW_none, errW_some] <;> rfl), by repeat (first | (with_reducible first | exact HB.out | apply below_alloc | apply pw_below_drewN | apply below_drew1 | refine below_set ?_ GE219.out) | exact HB.out)⟩
      · rw [if_neg c5] at H
        exact absurd H (by simp)
    · rw [if_neg c4] at H
      have c4b0 : decide (a1 < (l0_0.length : Int)) = false := decide_eq_false c4
      clear c4
      obtain rfl := Option.some.inj H
      go_enter Try.func51, Try.ntmps51
      go_wp2_with (first | ((with_reducible refine gate_dst (N := 2) rfl ?_); (try (refine gate_guard (by rfl) ?_; dsimp only)); refine box_event ?hg (N := 2) ?hd (cs := #[.slice A0_0 l0_0.length c0_0]) (t := 25) ?hr ?_; (case hd => rfl); (case hg => rfl); (case hr => first | (go_simp; done) | (go_simp; rfl)); intro gb219 hg w11 hbox hb; have n0_ := Aside0.mk (below_step (by repeat (first | (with_reducible first | exact HB.out | apply below_alloc | apply pw_below_drewN | apply below_drew1) | exact HB.out)) hb); have n1_ := Aside0.mk (hbox); have n2_ := Aside0.mk ((by rw [hg]; exact (below_size (by repeat (first | (with_reducible first | exact HB.out | apply below_alloc | apply pw_below_drewN | apply below_drew1) | exact HB.out))) : w.heap.size ≤ gb219)); have n3_ := Aside0.mk ((by rw [hg]; exact (below_size (by repeat (first | (with_reducible first | exact HB.out | apply below_alloc | apply pw_below_drewN | apply below_drew1) | exact HB.out))) : w.heap.size ≤ gb219)); clear HB; have HB := n0_; have BK219 := n1_; have GW219 := n2_; have GE219 := n3_; clear n0_ n1_ n2_ n3_; clear hb hbox hg; have hcz12_0 : w11.cell? ⟨gb219, 0, none⟩ = some (.slice A0_0 l0_0.length c0_0) := (blk_cell BK219.out 0).trans rfl; have hfz12_0 := blk_frozen BK219.out 0))
      repeat (go_quiet (first | ((with_reducible refine gate_dst (N := 2) rfl ?_); (try (refine gate_guard (by rfl) ?_; dsimp only)); refine box_event ?hg (N := 2) ?hd (cs := #[.slice A0_0 l0_0.length c0_0]) (t := 25) ?hr ?_; (case hd => rfl); (case hg => rfl); (case hr => first | (go_simp; done) | (go_simp; rfl)); intro gb219 hg w11 hbox hb; have n0_ := Aside0.mk (below_step (by repeat (first | (with_reducible first | exact HB.out | apply below_alloc | apply pw_below_drewN | apply below_drew1) | exact HB.out)) hb); have n1_ := Aside0.mk (hbox); have n2_ := Aside0.mk ((by rw [hg]; exact (below_size (by repeat (first | (with_reducible first | exact HB.out | apply below_alloc | apply pw_below_drewN | apply below_drew1) | exact HB.out))) : w.heap.size ≤ gb219)); have n3_ := Aside0.mk ((by rw [hg]; exact (below_size (by repeat (first | (with_reducible first | exact HB.out | apply below_alloc | apply pw_below_drewN | apply below_drew1) | exact HB.out))) : w.heap.size ≤ gb219)); clear HB; have HB := n0_; have BK219 := n1_; have GW219 := n2_; have GE219 := n3_; clear n0_ n1_ n2_ n3_; clear hb hbox hg; have hcz12_0 : w11.cell? ⟨gb219, 0, none⟩ = some (.slice A0_0 l0_0.length c0_0) := (blk_cell BK219.out 0).trans rfl; have hfz12_0 := blk_frozen BK219.out 0)); try go_wp2_with (first | ((with_reducible refine gate_dst (N := 2) rfl ?_); (try (refine gate_guard (by rfl) ?_; dsimp only)); refine box_event ?hg (N := 2) ?hd (cs := #[.slice A0_0 l0_0.length c0_0]) (t := 25) ?hr ?_; (case hd => rfl); (case hg => rfl); (case hr => first | (go_simp; done) | (go_simp; rfl)); intro gb219 hg w11 hbox hb; have n0_ := Aside0.mk (below_step (by repeat (first | (with_reducible first | exact HB.out | apply below_alloc | apply pw_below_drewN | apply below_drew1) | exact HB.out)) hb); have n1_ := Aside0.mk (hbox); have n2_ := Aside0.mk ((by rw [hg]; exact (below_size (by repeat (first | (with_reducible first | exact HB.out | apply below_alloc | apply pw_below_drewN | apply below_drew1) | exact HB.out))) : w.heap.size ≤ gb219)); have n3_ := Aside0.mk ((by rw [hg]; exact (below_size (by repeat (first | (with_reducible first | exact HB.out | apply below_alloc | apply pw_below_drewN | apply below_drew1) | exact HB.out))) : w.heap.size ≤ gb219)); clear HB; have HB := n0_; have BK219 := n1_; have GW219 := n2_; have GE219 := n3_; clear n0_ n1_ n2_ n3_; clear hb hbox hg; have hcz12_0 : w11.cell? ⟨gb219, 0, none⟩ = some (.slice A0_0 l0_0.length c0_0) := (blk_cell BK219.out 0).trans rfl; have hfz12_0 := blk_frozen BK219.out 0)))
      go_ret
      exact ⟨by first | rfl | (simp [errW_none, errW_some] <;> rfl) | (simp [*, errW_none, errW_some] <;> rfl), by repeat (first | (with_reducible first | exact HB.out | apply below_alloc | apply pw_below_drewN | apply below_drew1 | refine below_set ?_ GE219.out) | exact HB.out)⟩
  · rw [if_neg c3] at H
    have c3b0 : decide (0 ≤ a1) = false := decide_eq_false c3
    clear c3
    obtain rfl := Option.some.inj H
    go_enter Try.func51, Try.ntmps51
    go_wp2_with (first | ((with_reducible refine gate_dst (N := 2) rfl ?_); (try (refine gate_guard (by rfl) ?_; dsimp only)); refine box_event ?hg (N := 2) ?hd (cs := #[.slice A0_0 l0_0.length c0_0]) (t := 25) ?hr ?_; (case hd => rfl); (case hg => rfl); (case hr => first | (go_simp; done) | (go_simp; rfl)); intro gb219 hg w13 hbox hb; have n0_ := Aside0.mk (below_step (by repeat (first | (with_reducible first | exact HB.out | apply below_alloc | apply pw_below_drewN | apply below_drew1) | exact HB.out)) hb); have n1_ := Aside0.mk (hbox); have n2_ := Aside0.mk ((by rw [hg]; exact (below_size (by repeat (first | (with_reducible first | exact HB.out | apply below_alloc | apply pw_below_drewN | apply below_drew1) | exact HB.out))) : w.heap.size ≤ gb219)); have n3_ := Aside0.mk ((by rw [hg]; exact (below_size (by repeat (first | (with_reducible first | exact HB.out | apply below_alloc | apply pw_below_drewN | apply below_drew1) | exact HB.out))) : w.heap.size ≤ gb219)); clear HB; have HB := n0_; have BK219 := n1_; have GW219 := n2_; have GE219 := n3_; clear n0_ n1_ n2_ n3_; clear hb hbox hg))
    repeat (go_quiet (first | ((with_reducible refine gate_dst (N := 2) rfl ?_); (try (refine gate_guard (by rfl) ?_; dsimp only)); refine box_event ?hg (N := 2) ?hd (cs := #[.slice A0_0 l0_0.length c0_0]) (t := 25) ?hr ?_; (case hd => rfl); (case hg => rfl); (case hr => first | (go_simp; done) | (go_simp; rfl)); intro gb219 hg w13 hbox hb; have n0_ := Aside0.mk (below_step (by repeat (first | (with_reducible first | exact HB.out | apply below_alloc | apply pw_below_drewN | apply below_drew1) | exact HB.out)) hb); have n1_ := Aside0.mk (hbox); have n2_ := Aside0.mk ((by rw [hg]; exact (below_size (by repeat (first | (with_reducible first | exact HB.out | apply below_alloc | apply pw_below_drewN | apply below_drew1) | exact HB.out))) : w.heap.size ≤ gb219)); have n3_ := Aside0.mk ((by rw [hg]; exact (below_size (by repeat (first | (with_reducible first | exact HB.out | apply below_alloc | apply pw_below_drewN | apply below_drew1) | exact HB.out))) : w.heap.size ≤ gb219)); clear HB; have HB := n0_; have BK219 := n1_; have GW219 := n2_; have GE219 := n3_; clear n0_ n1_ n2_ n3_; clear hb hbox hg)); try go_wp2_with (first | ((with_reducible refine gate_dst (N := 2) rfl ?_); (try (refine gate_guard (by rfl) ?_; dsimp only)); refine box_event ?hg (N := 2) ?hd (cs := #[.slice A0_0 l0_0.length c0_0]) (t := 25) ?hr ?_; (case hd => rfl); (case hg => rfl); (case hr => first | (go_simp; done) | (go_simp; rfl)); intro gb219 hg w13 hbox hb; have n0_ := Aside0.mk (below_step (by repeat (first | (with_reducible first | exact HB.out | apply below_alloc | apply pw_below_drewN | apply below_drew1) | exact HB.out)) hb); have n1_ := Aside0.mk (hbox); have n2_ := Aside0.mk ((by rw [hg]; exact (below_size (by repeat (first | (with_reducible first | exact HB.out | apply below_alloc | apply pw_below_drewN | apply below_drew1) | exact HB.out))) : w.heap.size ≤ gb219)); have n3_ := Aside0.mk ((by rw [hg]; exact (below_size (by repeat (first | (with_reducible first | exact HB.out | apply below_alloc | apply pw_below_drewN | apply below_drew1) | exact HB.out))) : w.heap.size ≤ gb219)); clear HB; have HB := n0_; have BK219 := n1_; have GW219 := n2_; have GE219 := n3_; clear n0_ n1_ n2_ n3_; clear hb hbox hg)))
    go_ret
    exact ⟨by first | rfl | (simp [errW_none, errW_some] <;> rfl) | (simp [*, errW_none, errW_some] <;> rfl), by repeat (first | (with_reducible first | exact HB.out | apply below_alloc | apply pw_below_drewN | apply below_drew1 | refine below_set ?_ GE219.out) | exact HB.out)⟩

end Go.Proofs.Ytodldpdnhcafpaa.F

namespace Go.Proofs.Ytodldpdnhcafpaa.K
open Go.RowKit Go.Proofs.YtodldpdnhcafpaaW.PrintWords Go.Proofs.YtodldpdnhcafpaaW.PrintLast Go.Proofs.YtodldpdnhcafpaaW.PrintMore
open Go.Proofs.Ytodldpdnhcafpaa.F
set_option linter.unusedVariables false
set_option linter.unusedSimpArgs false

/-- What tree.kids hands to its function, in order, and what it answers. -/
def kids.l0 : Nat → Int → List Int → Int → List S47 → Option (List Int × Bool)
  | 0, _, _, _, _ => none
  | k + 1, en, pre, x, l => if x < en then (if 0 ≤ x then (if x < (l.length : Int) then (if (rd_T47 l x).f3 < 1 then some (pre ++ [x], false) else (if (rd_T47 l x).f3 > wrap64 (en - x) then some (pre ++ [x], false) else kids.l0 k en (pre ++ [x]) (wrap64 (x + (rd_T47 l x).f3)) l)) else none) else none) else some (pre, true)
def kids.f (k : Nat) (l : List S47) (n : Int) : Option (List Int × Bool) := (tree_sized.f l n).bind fun s => if s = true then (if 0 ≤ n then (if n < (l.length : Int) then kids.l0 k (wrap64 (n + (rd_T47 l n).f3)) [] (wrap64 (n + 1)) l else none) else none) else some ([], false)

theorem kids.l0_prefix : ∀ (k : Nat) (en : Int) (pre : List Int) (x : Int) (l : List S47) (r : List Int × Bool), kids.l0 k en pre x l = some r → pre <+: r.1
  | 0, _, _, _, _, _, h => by simp [kids.l0] at h
  | k + 1, en, pre, x, l, r, h => by
    simp only [kids.l0] at h
    split at h
    · split at h
      · split at h
        · split at h
          · obtain rfl := Option.some.inj h; exact ⟨[x], rfl⟩
          · split at h
            · obtain rfl := Option.some.inj h; exact ⟨[x], rfl⟩
            · exact List.IsPrefix.trans ⟨[x], rfl⟩ (kids.l0_prefix k en (pre ++ [x]) _ l r h)
        · exact absurd h (by simp)
      · exact absurd h (by simp)
    · obtain rfl := Option.some.inj h; exact List.prefix_refl _
theorem heap_lt {w : World} {b : Nat} {o : Obj} (h : w.heap[b]? = some o) : b < w.heap.size := (Array.getElem?_eq_some_iff.1 h).1
set_option maxHeartbeats 8000000 in
set_option maxRecDepth 100000 in
theorem kids.calls (g : Nat) (lb : Array Value) (eg : ∀ args w, (callFunc g args).run Try.prog w = .ok (.enter g args) w) (J : Nat → List Int → World → Prop) (k : Nat) (A : Option Addr) (c : Nat) (l : List S47) (n : Int) (ks : List Int) (ok : Bool) (w0 w : World)
    (hr : Kd.C k47 w0 A l.length l) (hc : l.length ≤ c) (hw : Below w0.heap.size w0 w) (h : kids.f k l n = some (ks, ok))
    (h0 : ∀ gb, w.heap.size ≤ gb → J gb [] w)
    (hal : ∀ gb pre W W', J gb pre W → Below W.heap.size W W' → J gb pre W')
    (hY : ∀ gb pre x W, (pre ++ [x]) <+: ks → 0 ≤ x → x < (l.length : Int) → J gb pre W → w.heap.size ≤ gb → gb < W.heap.size → Below w0.heap.size w0 W →
      Calls Try.prog g (#[.int .i64 x] ++ lb) W fun e W' => (∃ v, e = .returned v) ∧ J gb (pre ++ [x]) W' ∧ W'.heap[gb]? = W.heap[gb]? ∧ Below w0.heap.size w0 W') :
    Calls Try.prog 55 #[.agg #[.slice A l.length c], .int .i64 n, .func (.func g) #[] lb] w fun e w' => e = .returned (.bool ok) ∧ (∃ gb, J gb ks w') ∧ Below w0.heap.size w0 w' := by
  have hu25 := Try.underlying25
  have HR := Aside0.mk hr
  have HC := Aside0.mk hc
  have HW := Aside0.mk hw
  have H0 := Aside0.mk h0
  have HAL := Aside0.mk hal
  have HY := Aside0.mk hY
  clear hr hc hw h0 hal hY
  obtain ⟨s, hs, h⟩ := Option.bind_eq_some_iff.1 h
  have HS := Aside0.mk hs
  have HC1 := Aside0.mk h
  clear hs h
  have HB := Aside0.mk (Below.refl w.heap.size w)
  cases s with
  | false =>
    have H := HC1.out
    simp only [Bool.false_eq_true, if_false, Option.some.injEq, Prod.mk.injEq] at H
    obtain ⟨rfl, rfl⟩ := H
    clear HC1
    go_enter Try.func55, Try.ntmps55
    go_wp2_with (first | ((with_reducible refine gate_dst (N := 3) rfl ?_); (try (refine gate_guard (by rfl) ?_; dsimp only)); refine box_event ?hg (N := 3) ?hd (cs := #[.slice A l.length c]) (t := 25) ?hr ?_; (case hd => rfl); (case hg => rfl); (case hr => first | (go_simp; done) | (go_simp; rfl)); intro gb hg w4 hbox hb; have n0_ := Aside0.mk (below_step (by repeat (first | (with_reducible first | exact HB.out | apply below_alloc | apply pw_below_drewN | apply below_drew1) | exact HB.out)) hb); have n1_ := Aside0.mk (hbox); have n2_ := Aside0.mk ((by rw [hg]; exact (below_size (by repeat (first | (with_reducible first | exact HB.out | apply below_alloc | apply pw_below_drewN | apply below_drew1) | exact HB.out))) : w.heap.size ≤ gb)); have n3_ := Aside0.mk ((by rw [hg]; exact (below_size (by repeat (first | (with_reducible first | exact HB.out | apply below_alloc | apply pw_below_drewN | apply below_drew1) | exact HB.out))) : w.heap.size ≤ gb)); clear HB; have HB := n0_; have BK := n1_; have GW := n2_; have GE := n3_; clear n0_ n1_ n2_ n3_; clear hb hbox hg; have hcz0 : w4.cell? ⟨gb, 0, none⟩ = some (.slice A l.length c) := (blk_cell BK.out 0).trans rfl; have hfz0 := blk_frozen BK.out 0) | (go_at_call 51; refine (tree_sized.calls A c l n false _ (Kd.C_below (Kd.C_below HR.out HW.out) HB.out) HC.out HS.out).mono ?_; rintro e w5 ⟨rfl, hb5⟩; clear hcz0 hfz0; have n1_ := Aside0.mk (blk_below BK.out hb5); have n2_ := Aside0.mk (below_step HB.out hb5); clear BK HB hb5; have BK := n1_; have HB := n2_; clear n1_ n2_; have hcz0 : w5.cell? ⟨gb, 0, none⟩ = some (.slice A l.length c) := (blk_cell BK.out 0).trans rfl; have hfz0 := blk_frozen BK.out 0))
    go_ret
    exact ⟨rfl, ⟨gb, HAL.out gb [] w _ (H0.out gb GW.out) HB.out⟩, HW.out.trans (HB.out.mono HW.out.size)⟩
  | true =>
    have H := HC1.out
    rw [if_pos rfl] at H
    clear HC1
    by_cases d1 : 0 ≤ n
    · rw [if_pos d1] at H
      by_cases d2 : n < (l.length : Int)
      · rw [if_pos d2] at H
        have H' := Aside0.mk H
        clear H
        have p2 : 0 ≤ (n : Int) := d1
        have q2 : n < (l.length : Int) := d2
        obtain ⟨ad, e2, hx0, hx1, hx2, hx3⟩ := at_T47 HR.out n p2 q2
        cases e2
        replace p2 := eq_true p2
        replace q2 := eq_true q2
        have b2 : decide (0 ≤ n) = true := decide_eq_true d1
        have b3 : decide (n < (l.length : Int)) = true := decide_eq_true d2
        clear d1 d2
        replace hx3 := Aside0.mk hx3
        clear hx0 hx1 hx2
        go_enter Try.func55, Try.ntmps55
        go_wp2_with (first | ((with_reducible refine gate_dst (N := 3) rfl ?_); (try (refine gate_guard (by rfl) ?_; dsimp only)); refine box_event ?hg (N := 3) ?hd (cs := #[.slice (some ad) l.length c]) (t := 25) ?hr ?_; (case hd => rfl); (case hg => rfl); (case hr => first | (go_simp; done) | (go_simp; rfl)); intro gb hg w4 hbox hb; have n0_ := Aside0.mk (below_step (by repeat (first | (with_reducible first | exact HB.out | apply below_alloc | apply pw_below_drewN | apply below_drew1) | exact HB.out)) hb); have n1_ := Aside0.mk (hbox); have n2_ := Aside0.mk ((by rw [hg]; exact (below_size (by repeat (first | (with_reducible first | exact HB.out | apply below_alloc | apply pw_below_drewN | apply below_drew1) | exact HB.out))) : w.heap.size ≤ gb)); have n3_ := Aside0.mk ((by rw [hg]; exact (below_size (by repeat (first | (with_reducible first | exact HB.out | apply below_alloc | apply pw_below_drewN | apply below_drew1) | exact HB.out))) : w.heap.size ≤ gb)); clear HB; have HB := n0_; have BK := n1_; have GW := n2_; have GE := n3_; clear n0_ n1_ n2_ n3_; clear hb hbox hg; have hcz0 : w4.cell? ⟨gb, 0, none⟩ = some (.slice (some ad) l.length c) := (blk_cell BK.out 0).trans rfl; have hfz0 := blk_frozen BK.out 0) | (go_at_call 51; refine (tree_sized.calls (some ad) c l n true _ (Kd.C_below (Kd.C_below HR.out HW.out) HB.out) HC.out HS.out).mono ?_; rintro e w5 ⟨rfl, hb5⟩; clear hcz0 hfz0; have n1_ := Aside0.mk (blk_below BK.out hb5); have n2_ := Aside0.mk (below_step HB.out hb5); clear BK HB hb5; have BK := n1_; have HB := n2_; clear n1_ n2_; have hcz0 : w5.cell? ⟨gb, 0, none⟩ = some (.slice (some ad) l.length c) := (blk_cell BK.out 0).trans rfl; have hfz0 := blk_frozen BK.out 0; have hx := ((HW.out.trans (HB.out.mono HW.out.size)).cell (World.block_lt_of_cell? w0 _ hx3.out)).trans hx3.out))
        go_loopg [8] k (fun kq v8 w' => ∃ (pre : List Int) (x8 : Int), v8 = .int .i64 x8 ∧ Aside0 (kids.l0 kq (wrap64 (n + (rd_T47 l n).f3)) pre x8 l = some (ks, ok)) ∧ Aside0 (kq ≤ k) ∧ Aside0 (J gb pre w') ∧ Aside0 (w'.heap[gb]? = some (.cells #[.slice (some ad) l.length c] 25 (0, 0))) ∧ Aside0 (Below w0.heap.size w0 w'))
        case atStart => exact ⟨[], wrap64 (n + 1), by first | rfl | simp, H', ⟨Nat.le_refl _⟩, ⟨HAL.out gb [] w _ (H0.out gb GW.out) HB.out⟩, BK, ⟨HW.out.trans (HB.out.mono HW.out.size)⟩⟩
        case round =>
          clear hx hcz0 hfz0 BK H' p2 q2 b2 b3
          obtain ⟨pre, x8, rfl, HA, HK3, HJ, BK, HD⟩ := hrel
          have hcz0 : wr.cell? ⟨gb, 0, none⟩ = some (.slice (some ad) l.length c) := (blk_cell BK.out 0).trans rfl
          have hfz0 := blk_frozen BK.out 0
          cases gk with
          | zero => exact absurd HA.out (by simp [kids.l0])
          | succ k3 =>
            have H := HA.out
            clear HA
            simp only [kids.l0] at H
            by_cases c1 : x8 < wrap64 (n + (rd_T47 l n).f3)
            · rw [if_pos c1] at H
              have c1b : decide (x8 < wrap64 (n + (rd_T47 l n).f3)) = true := decide_eq_true c1
              clear c1
              by_cases c2 : 0 ≤ x8
              · rw [if_pos c2] at H
                by_cases c3 : x8 < (l.length : Int)
                · rw [if_pos c3] at H
                  obtain ⟨ad', e2, hy0, hy1, hy2, hy3⟩ := at_T47 HR.out x8 c2 c3
                  cases e2
                  have hx8 := Aside0.mk hy3
                  clear hy0 hy1 hy2 hy3
                  have c2b : decide (0 ≤ x8) = true := decide_eq_true c2
                  have c3b : decide (x8 < (l.length : Int)) = true := decide_eq_true c3
                  replace c2 := eq_true c2
                  replace c3 := eq_true c3
                  by_cases c4 : (rd_T47 l x8).f3 < 1
                  · rw [if_pos c4] at H
                    have c4b : decide ((rd_T47 l x8).f3 < 1) = true := decide_eq_true c4
                    clear c4
                    simp only [Option.some.injEq, Prod.mk.injEq] at H
                    obtain ⟨rfl, rfl⟩ := H
                    go_wp2_with fail
                    refine (HY.out gb pre x8 _ (List.prefix_refl _) (of_decide_eq_true c2b) (of_decide_eq_true c3b) HJ.out GW.out (heap_lt BK.out) HD.out).mono ?_
                    rintro e w6 ⟨⟨v, rfl⟩, hj, hbk, hd⟩
                    have n1_ := Aside0.mk hj
                    have n2_ := Aside0.mk (hbk.trans BK.out)
                    have n3_ := Aside0.mk hd
                    clear hcz0 hfz0 HJ BK HD hj hbk hd
                    have HJ := n1_
                    have BK := n2_
                    have HD := n3_
                    clear n1_ n2_ n3_
                    have hcz0 : w6.cell? ⟨gb, 0, none⟩ = some (.slice (some ad) l.length c) := (blk_cell BK.out 0).trans rfl
                    have hfz0 := blk_frozen BK.out 0
                    have hx := (HD.out.cell (World.block_lt_of_cell? w0 _ hx8.out)).trans hx8.out
                    go_wp2
                    go_ret
                    exact ⟨rfl, ⟨gb, HAL.out gb _ _ _ HJ.out (by repeat (first | exact Below.refl _ _ | apply below_drew1 | apply pw_below_drewN | apply below_alloc))⟩, by repeat (first | exact HD.out | apply below_drew1 | apply pw_below_drewN | apply below_alloc)⟩
                  · rw [if_neg c4] at H
                    have c4b : decide ((rd_T47 l x8).f3 < 1) = false := decide_eq_false c4
                    clear c4
                    by_cases c5 : (rd_T47 l x8).f3 > wrap64 (wrap64 (n + (rd_T47 l n).f3) - x8)
                    · rw [if_pos c5] at H
                      have c5b : decide (wrap64 (wrap64 (n + (rd_T47 l n).f3) - x8) < (rd_T47 l x8).f3) = true := decide_eq_true c5
                      clear c5
                      simp only [Option.some.injEq, Prod.mk.injEq] at H
                      obtain ⟨rfl, rfl⟩ := H
                      go_wp2_with fail
                      refine (HY.out gb pre x8 _ (List.prefix_refl _) (of_decide_eq_true c2b) (of_decide_eq_true c3b) HJ.out GW.out (heap_lt BK.out) HD.out).mono ?_
                      rintro e w6 ⟨⟨v, rfl⟩, hj, hbk, hd⟩
                      have n1_ := Aside0.mk hj
                      have n2_ := Aside0.mk (hbk.trans BK.out)
                      have n3_ := Aside0.mk hd
                      clear hcz0 hfz0 HJ BK HD hj hbk hd
                      have HJ := n1_
                      have BK := n2_
                      have HD := n3_
                      clear n1_ n2_ n3_
                      have hcz0 : w6.cell? ⟨gb, 0, none⟩ = some (.slice (some ad) l.length c) := (blk_cell BK.out 0).trans rfl
                      have hfz0 := blk_frozen BK.out 0
                      have hx := (HD.out.cell (World.block_lt_of_cell? w0 _ hx8.out)).trans hx8.out
                      go_wp2
                      go_ret
                      exact ⟨rfl, ⟨gb, HAL.out gb _ _ _ HJ.out (by repeat (first | exact Below.refl _ _ | apply below_drew1 | apply pw_below_drewN | apply below_alloc))⟩, by repeat (first | exact HD.out | apply below_drew1 | apply pw_below_drewN | apply below_alloc)⟩
                    · rw [if_neg c5] at H
                      have c5b : decide (wrap64 (wrap64 (n + (rd_T47 l n).f3) - x8) < (rd_T47 l x8).f3) = false := decide_eq_false c5
                      clear c5
                      have H' := Aside0.mk H
                      clear H
                      go_wp2_with fail
                      refine (HY.out gb pre x8 _ (kids.l0_prefix _ _ _ _ _ _ H'.out) (of_decide_eq_true c2b) (of_decide_eq_true c3b) HJ.out GW.out (heap_lt BK.out) HD.out).mono ?_
                      rintro e w6 ⟨⟨v, rfl⟩, hj, hbk, hd⟩
                      have n1_ := Aside0.mk hj
                      have n2_ := Aside0.mk (hbk.trans BK.out)
                      have n3_ := Aside0.mk hd
                      clear hcz0 hfz0 HJ BK HD hj hbk hd
                      have HJ := n1_
                      have BK := n2_
                      have HD := n3_
                      clear n1_ n2_ n3_
                      have hcz0 : w6.cell? ⟨gb, 0, none⟩ = some (.slice (some ad) l.length c) := (blk_cell BK.out 0).trans rfl
                      have hfz0 := blk_frozen BK.out 0
                      have hx := (HD.out.cell (World.block_lt_of_cell? w0 _ hx8.out)).trans hx8.out
                      go_wp2
                      go_roundg k3
                      case measure => have := HK3.out; omega
                      case rel => exact ⟨pre ++ [x8], wrap64 (x8 + (rd_T47 l x8).f3), by first | rfl | simp, H', ⟨by have := HK3.out; omega⟩, ⟨HAL.out gb _ _ _ HJ.out (by repeat (first | exact Below.refl _ _ | apply below_drew1 | apply pw_below_drewN | apply below_alloc))⟩, BK, ⟨by repeat (first | exact HD.out | apply below_drew1 | apply pw_below_drewN | apply below_alloc)⟩⟩
                · rw [if_neg c3] at H
                  exact absurd H (by simp)
              · rw [if_neg c2] at H
                exact absurd H (by simp)
            · rw [if_neg c1] at H
              have c1b : decide (x8 < wrap64 (n + (rd_T47 l n).f3)) = false := decide_eq_false c1
              clear c1
              simp only [Option.some.injEq, Prod.mk.injEq] at H
              obtain ⟨rfl, rfl⟩ := H
              go_wp2
              go_ret
              exact ⟨rfl, ⟨gb, HAL.out gb _ _ _ HJ.out (by repeat (first | exact Below.refl _ _ | apply below_drew1 | apply pw_below_drewN | apply below_alloc))⟩, by repeat (first | exact HD.out | apply below_drew1 | apply pw_below_drewN | apply below_alloc)⟩
      · rw [if_neg d2] at H
        exact absurd H (by simp)
    · rw [if_neg d1] at H
      exact absurd H (by simp)
end Go.Proofs.Ytodldpdnhcafpaa.K

namespace Go.Proofs.Ytodldpdnhcafpaa.K
open Go.RowKit Go.Proofs.YtodldpdnhcafpaaW.PrintWords Go.Proofs.YtodldpdnhcafpaaW.PrintLast Go.Proofs.YtodldpdnhcafpaaW.PrintMore
open Go.Proofs.Ytodldpdnhcafpaa.F
set_option linter.unusedVariables false
set_option linter.unusedSimpArgs false

theorem info3' : (Try.prog.info? 3).map (fun i => (i.zero, i.size, i.bytes)) = some (some (.int .i64 0), 1, 8) := by kernel_rfl

set_option maxHeartbeats 1000000 in
/-- 'out = append(out, k)', out a captured variable. -/
theorem kids1.calls (x : Int) (b gb : Nat) (v : Value) (xs : List Int) (w0 w : World) (hb : w.heap[b]? = some (.cells #[v] 33 (0, 0))) (hv : (Kd.int .i64).R 3 w w0.heap.size (fun k => k ≠ gb ∧ k ≠ b) v xs)
    (hl : xs.length < 17592186044415) (hW : Below w0.heap.size w0 w) (hbb : w0.heap.size ≤ b) (hne : gb ≠ b) (hgb : gb < w.heap.size) :
    Calls Try.prog 57 #[.int .i64 x, .pointer (some ⟨b, 0, none⟩)] w fun e w' => (∃ v, e = .returned v) ∧ (∃ v', w'.heap[b]? = some (.cells #[v'] 33 (0, 0)) ∧ (Kd.int .i64).R 3 w' w0.heap.size (fun k => k ≠ gb ∧ k ≠ b) v' (xs ++ [x])) ∧ w'.heap[gb]? = w.heap[gb]? ∧ Below w0.heap.size w0 w' := by
  have hu33 := Try.underlying33
  have hbl := blk_lt hb
  obtain ⟨A, c, rfl⟩ := Kd.R_slice hv
  have hc0 : w.cell? ⟨b, 0, none⟩ = some (.slice A xs.length c) := (blk_cell hb 0).trans rfl
  have hf0 := blk_frozen hb 0
  have HV := Aside0.mk hv
  have HB := Aside0.mk hb
  have HW := Aside0.mk hW
  have HL := Aside0.mk hl
  have HBB := Aside0.mk hbb
  have HNE := Aside0.mk hne
  have HGB := Aside0.mk hgb
  have HBL := Aside0.mk hbl
  clear hv hb hW hl hbb hne hgb hbl
  go_enter Try.func57, Try.ntmps57
  go_wp2_with (first
    | (at_builtin; refine Kd.R_append (Kd.int .i64) (w0 := w0) w0.heap.size rfl (.tmp 3) (.tmp 5) 33 3 (.int .i64 0) 8 rfl Try.underlying33 info3' rfl (by decide) (by omega) (.slice A xs.length c) xs x [.int .i64 x] (fun k => k ≠ gb ∧ k ≠ b) (fun _ => False) rfl rfl ?aP (fun _ hk => hk.elim) ?aF ?aO ?aB ?aS ?aL ?_; (case aP => exact rfl); (case aF => exact (fun k hk => ⟨by have := HGB.out; omega, by have := HBL.out; omega⟩)); (case aO => exact HV.out); (case aB => exact HW.out); (case aS => exact HW.out.size); (case aL => have := HL.out; omega); intro v1 w1 ho hb1 hg hat; have n0_ := Aside0.mk (blk_grown HB.out hg (fun e => (HV.out.1 _ e.symm).2 rfl)); have n1_ := Aside0.mk (hg.block gb HGB.out (fun e => (HV.out.1 _ e.symm).1 rfl)); have n2_ := Aside0.mk ho; have n3_ := Aside0.mk hb1; clear HB HW hc0 hf0 ho hb1 hg hat HV; have HB := n0_; have HG := n1_; have HO := n2_; have HW := n3_; clear n0_ n1_ n2_ n3_; have hc0 : w1.cell? ⟨b, 0, none⟩ = some (.slice A xs.length c) := (blk_cell HB.out 0).trans rfl; have hf0 := blk_frozen HB.out 0; obtain ⟨A1, c1, e1⟩ := Kd.R_slice HO.out; subst e1))
  first | go_end0 | ((try simp only [Exit.inBlock, Exit.then]); refine bodyPost_ret (results_none rfl _ _ _) rfl ?_)
  refine ⟨⟨_, rfl⟩, ⟨_, blk_put HB.out 0 _ rfl, ?_⟩, ?_, ?_⟩
  · have e := Kd.R_far (p := ⟨b, 0, none⟩) HO.out (fun k hk => hk.2) (.slice A1 (xs ++ [x]).length c1)
    simpa only [List.length_append, List.length_singleton] using e
  · exact (Below.heap_setCell _ _ _ _ HNE.out).trans HG.out
  · exact below_set HW.out HBB.out

set_option maxHeartbeats 1000000 in
/-- 'if at == i { out = k }; at++'. -/
theorem kid1.calls (x a i o : Int) (b1 b2 b3 gb : Nat) (w0 w : World) (h1 : w.heap[b1]? = some (.cells #[.int .i64 a] 3 (0, 0))) (h2 : w.heap[b2]? = some (.cells #[.int .i64 i] 3 (0, 0))) (h3 : w.heap[b3]? = some (.cells #[.int .i64 o] 3 (0, 0)))
    (n12 : b1 ≠ b2) (n13 : b1 ≠ b3) (n23 : b2 ≠ b3) (g1 : gb ≠ b1) (g3 : gb ≠ b3) (hW : Below w0.heap.size w0 w) (hb1 : w0.heap.size ≤ b1) (hb3 : w0.heap.size ≤ b3) :
    Calls Try.prog 58 #[.int .i64 x, .pointer (some ⟨b1, 0, none⟩), .pointer (some ⟨b2, 0, none⟩), .pointer (some ⟨b3, 0, none⟩)] w fun e w' => (∃ v, e = .returned v) ∧
      w'.heap[b1]? = some (.cells #[.int .i64 (wrap64 (a + 1))] 3 (0, 0)) ∧ w'.heap[b2]? = some (.cells #[.int .i64 i] 3 (0, 0)) ∧ w'.heap[b3]? = some (.cells #[.int .i64 (if a = i then x else o)] 3 (0, 0)) ∧ w'.heap[gb]? = w.heap[gb]? ∧ Below w0.heap.size w0 w' := by
  have c1 : w.cell? ⟨b1, 0, none⟩ = some (.int .i64 a) := (blk_cell h1 0).trans rfl
  have f1 := blk_frozen h1 0
  have c2 : w.cell? ⟨b2, 0, none⟩ = some (.int .i64 i) := (blk_cell h2 0).trans rfl
  have c3 : w.cell? ⟨b3, 0, none⟩ = some (.int .i64 o) := (blk_cell h3 0).trans rfl
  have f3 := blk_frozen h3 0
  have H1 := Aside0.mk h1
  have H2 := Aside0.mk h2
  have H3 := Aside0.mk h3
  have HW := Aside0.mk hW
  have HB1 := Aside0.mk hb1
  have HB3 := Aside0.mk hb3
  have N12 := Aside0.mk n12
  have N13 := Aside0.mk n13
  have N23 := Aside0.mk n23
  have G1 := Aside0.mk g1
  have G3 := Aside0.mk g3
  clear h1 h2 h3 hW hb1 hb3 n12 g1 g3 n23
  by_cases c : a = i
  · have k1 : (a == i) = true := beq_iff_eq.mpr c
    rw [if_pos c]
    clear c
    have c1' : (w.setCell ⟨b3, 0, none⟩ (.int .i64 x)).cell? ⟨b1, 0, none⟩ = some (.int .i64 a) := (blk_cell (blk_far (p := ⟨b3, 0, none⟩) H1.out N13.out _) 0).trans rfl
    clear n13
    go_enter Try.func58, Try.ntmps58
    go_wp2
    first | go_end0 | ((try simp only [Exit.inBlock, Exit.then]); refine bodyPost_ret (results_none rfl _ _ _) rfl ?_)
    refine ⟨⟨_, rfl⟩, blk_put (blk_far (p := ⟨b3, 0, none⟩) H1.out N13.out _) 0 _ rfl, blk_far (p := ⟨b1, 0, none⟩) (blk_far (p := ⟨b3, 0, none⟩) H2.out N23.out _) N12.out.symm _, blk_far (p := ⟨b1, 0, none⟩) (blk_put H3.out 0 _ rfl) N13.out.symm _, ?_, below_set (below_set HW.out HB3.out) HB1.out⟩
    exact (Below.heap_setCell _ _ _ _ G1.out).trans (Below.heap_setCell _ _ _ _ G3.out)
  · have k1 : (a == i) = false := beq_eq_false_iff_ne.mpr c
    rw [if_neg c]
    clear c n13
    go_enter Try.func58, Try.ntmps58
    go_wp2
    first | go_end0 | ((try simp only [Exit.inBlock, Exit.then]); refine bodyPost_ret (results_none rfl _ _ _) rfl ?_)
    exact ⟨⟨_, rfl⟩, blk_put H1.out 0 _ rfl, blk_far (p := ⟨b1, 0, none⟩) H2.out N12.out.symm _, blk_far (p := ⟨b1, 0, none⟩) H3.out N13.out.symm _, Below.heap_setCell _ _ _ _ G1.out, below_set HW.out HB1.out⟩

set_option maxHeartbeats 1000000 in
/-- 'met = met || k == n'. -/
theorem up1.calls (x n : Int) (m : Bool) (b1 b2 : Nat) (w0 w : World) (h1 : w.heap[b1]? = some (.cells #[.bool m] 4 (0, 0))) (h2 : w.heap[b2]? = some (.cells #[.int .i64 n] 3 (0, 0)))
    (hW : Below w0.heap.size w0 w) (hb1 : w0.heap.size ≤ b1) :
    Calls Try.prog 56 #[.int .i64 x, .pointer (some ⟨b1, 0, none⟩), .pointer (some ⟨b2, 0, none⟩)] w fun e w' => (∃ v, e = .returned v) ∧
      w'.heap[b1]? = some (.cells #[.bool (m || decide (x = n))] 4 (0, 0)) ∧ w'.heap[b2]? = some (.cells #[.int .i64 n] 3 (0, 0)) ∧ (∀ k, k ≠ b1 → w'.heap[k]? = w.heap[k]?) ∧ Below w0.heap.size w0 w' := by
  have c1 : w.cell? ⟨b1, 0, none⟩ = some (.bool m) := (blk_cell h1 0).trans rfl
  have f1 := blk_frozen h1 0
  have c2 : w.cell? ⟨b2, 0, none⟩ = some (.int .i64 n) := (blk_cell h2 0).trans rfl
  have n12 : b1 ≠ b2 := blk_ne h1 h2 (by decide)
  have H1 := Aside0.mk h1
  have H2 := Aside0.mk h2
  have HW := Aside0.mk hW
  have HB1 := Aside0.mk hb1
  have N12 := Aside0.mk n12
  clear h1 h2 hW hb1 n12
  have main : ∀ r : Bool, (m || decide (x = n)) = r → ∀ (b : Bool), (x == n) = b → (m || b) = r := by
    intro r hr b hb
    rw [← hr, ← hb]
    congr 1
  cases m with
  | true =>
    clear main
    rw [Bool.true_or]
    go_enter Try.func56, Try.ntmps56
    go_wp2
    first | go_end0 | ((try simp only [Exit.inBlock, Exit.then]); refine bodyPost_ret (results_none rfl _ _ _) rfl ?_)
    exact ⟨⟨_, rfl⟩, blk_put H1.out 0 _ rfl, blk_far (p := ⟨b1, 0, none⟩) H2.out N12.out.symm _, fun k hk => Below.heap_setCell _ _ _ _ hk, below_set HW.out HB1.out⟩
  | false =>
    clear main
    rw [Bool.false_or]
    by_cases c : x = n
    · have k1 : (x == n) = true := beq_iff_eq.mpr c
      rw [decide_eq_true c]
      clear c
      go_enter Try.func56, Try.ntmps56
      go_wp2
      first | go_end0 | ((try simp only [Exit.inBlock, Exit.then]); refine bodyPost_ret (results_none rfl _ _ _) rfl ?_)
      exact ⟨⟨_, rfl⟩, blk_put H1.out 0 _ rfl, blk_far (p := ⟨b1, 0, none⟩) H2.out N12.out.symm _, fun k hk => Below.heap_setCell _ _ _ _ hk, below_set HW.out HB1.out⟩
    · have k1 : (x == n) = false := beq_eq_false_iff_ne.mpr c
      rw [decide_eq_false c]
      clear c
      go_enter Try.func56, Try.ntmps56
      go_wp2
      first | go_end0 | ((try simp only [Exit.inBlock, Exit.then]); refine bodyPost_ret (results_none rfl _ _ _) rfl ?_)
      exact ⟨⟨_, rfl⟩, blk_put H1.out 0 _ rfl, blk_far (p := ⟨b1, 0, none⟩) H2.out N12.out.symm _, fun k hk => Below.heap_setCell _ _ _ _ hk, below_set HW.out HB1.out⟩
end Go.Proofs.Ytodldpdnhcafpaa.K

namespace Go.Proofs.Ytodldpdnhcafpaa.K
open Go.RowKit Go.Proofs.YtodldpdnhcafpaaW.PrintWords Go.Proofs.YtodldpdnhcafpaaW.PrintLast Go.Proofs.YtodldpdnhcafpaaW.PrintMore
open Go.Proofs.Ytodldpdnhcafpaa.F
attribute [local go_sem] max2_int min2_int max_two min_two
set_option linter.unusedVariables false
set_option linter.unusedSimpArgs false

/-- One kid y of a node nd: is all good so far, and where the next one may begin. -/
def vstep (nd y : S47) (good : Bool) (a : Int) : Bool × Int :=
  if y.f1 = y.f2 then (good && decide (nd.f1 ≤ y.f1), a) else (good && decide (a ≤ y.f1) && decide (y.f2 ≤ nd.f2), mx a y.f2)
set_option maxHeartbeats 8000000 in
set_option maxRecDepth 100000 in
theorem valid1.calls (x : Int) (l : List S47) (A : Option Addr) (c : Nat) (nd : S47) (good : Bool) (a : Int) (gt gg gx ga : Nat) (w0 w : World)
    (ht : w.heap[gt]? = some (.cells #[.slice A l.length c] 25 (0, 0))) (hg : w.heap[gg]? = some (.cells #[.bool good] 4 (0, 0))) (hx : w.heap[gx]? = some (.cells #[.int .u8 nd.f0, .int .i64 nd.f1, .int .i64 nd.f2, .int .i64 nd.f3] 47 (0, 0))) (ha : w.heap[ga]? = some (.cells #[.int .i64 a] 3 (0, 0)))
    (hr : Kd.C k47 w A l.length l) (h0 : 0 ≤ x) (h1 : x < (l.length : Int)) (hW : Below w0.heap.size w0 w) (hgg : w0.heap.size ≤ gg) (hga : w0.heap.size ≤ ga) :
    Calls Try.prog 61 #[.int .i64 x, .pointer (some ⟨gt, 0, none⟩), .pointer (some ⟨gg, 0, none⟩), .pointer (some ⟨gx, 0, none⟩), .pointer (some ⟨ga, 0, none⟩)] w fun e w' => (∃ v, e = .returned v) ∧
      w'.heap[gg]? = some (.cells #[.bool (vstep nd (rd_T47 l x) good a).1] 4 (0, 0)) ∧ w'.heap[ga]? = some (.cells #[.int .i64 (vstep nd (rd_T47 l x) good a).2] 3 (0, 0)) ∧ (∀ k, k < w.heap.size → k ≠ gg → k ≠ ga → w'.heap[k]? = w.heap[k]?) ∧ Below w0.heap.size w0 w' := by
  obtain ⟨ad, e2, hx0, hx1, hx2, hx3⟩ := at_T47 hr x h0 h1
  subst e2
  obtain ⟨y, hy⟩ : ∃ y, rd_T47 l x = y := ⟨_, rfl⟩
  rw [hy] at hx0 hx1 hx2 hx3 ⊢
  clear hy hr
  have ct : w.cell? ⟨gt, 0, none⟩ = some (.slice (some ad) l.length c) := (blk_cell ht 0).trans rfl
  have h0b : decide (0 ≤ x) = true := decide_eq_true h0
  have h1b : decide (x < (l.length : Int)) = true := decide_eq_true h1
  replace h0 := eq_true h0
  replace h1 := eq_true h1
  have ngg := blk_ne hg ha (by decide)
  have HT := Aside0.mk ht
  have HG := Aside0.mk hg
  have HX := Aside0.mk hx
  have HA := Aside0.mk ha
  have HW := Aside0.mk hW
  have GG := Aside0.mk hgg
  have GA := Aside0.mk hga
  have NGA := Aside0.mk ngg
  clear ht hg hx ha hW hgg hga ngg
  have LB0 : Below w.heap.size w (w.alloc (.cells #[.int .u8 y.f0, .int .i64 y.f1, .int .i64 y.f2, .int .i64 y.f3] 47)) := below_alloc (Below.refl _ _) _
  have LG := Aside0.mk (blk_below HG.out LB0)
  have LX := Aside0.mk (blk_below HX.out LB0)
  have LA := Aside0.mk (blk_below HA.out LB0)
  have L6 := Aside0.mk (heap_alloc_new w (.cells #[.int .u8 y.f0, .int .i64 y.f1, .int .i64 y.f2, .int .i64 y.f3] 47))
  have LW := Aside0.mk (show Below w0.heap.size w0 (w.alloc (.cells #[.int .u8 y.f0, .int .i64 y.f1, .int .i64 y.f2, .int .i64 y.f3] 47)) from below_step HW.out LB0)
  have LB := Aside0.mk (show ∀ k, k < w.heap.size → (w.alloc (.cells #[.int .u8 y.f0, .int .i64 y.f1, .int .i64 y.f2, .int .i64 y.f3] 47)).heap[k]? = w.heap[k]? from fun k hk => LB0.block k hk)
  have E2 := Aside0.mk (show gg ≠ w.heap.size from Nat.ne_of_lt (blk_lt HG.out))
  clear LB0
  have cg : (w.alloc (.cells #[.int .u8 y.f0, .int .i64 y.f1, .int .i64 y.f2, .int .i64 y.f3] 47)).cell? ⟨gg, 0, none⟩ = some (.bool good) := (blk_cell LG.out 0).trans rfl
  have fg := blk_frozen LG.out 0
  have cx1 : (w.alloc (.cells #[.int .u8 y.f0, .int .i64 y.f1, .int .i64 y.f2, .int .i64 y.f3] 47)).cell? ⟨gx, 1, none⟩ = some (.int .i64 nd.f1) := (blk_cell LX.out 1).trans rfl
  have cx2 : (w.alloc (.cells #[.int .u8 y.f0, .int .i64 y.f1, .int .i64 y.f2, .int .i64 y.f3] 47)).cell? ⟨gx, 2, none⟩ = some (.int .i64 nd.f2) := (blk_cell LX.out 2).trans rfl
  have ca : (w.alloc (.cells #[.int .u8 y.f0, .int .i64 y.f1, .int .i64 y.f2, .int .i64 y.f3] 47)).cell? ⟨ga, 0, none⟩ = some (.int .i64 a) := (blk_cell LA.out 0).trans rfl
  have fa := blk_frozen LA.out 0
  by_cases k1 : y.f1 = y.f2
  · have k1b : (y.f1 == y.f2) = true := beq_iff_eq.mpr k1
    have hv : vstep nd y good a = (good && decide (nd.f1 ≤ y.f1), a) := by unfold vstep; rw [if_pos k1]
    rw [hv]
    clear hv k1
    cases good with
    | false =>
      rw [Bool.false_and]
      go_enter Try.func61, Try.ntmps61
      go_wp2
      first | go_end0 | ((try simp only [Exit.inBlock, Exit.then]); refine bodyPost_ret (results_none rfl _ _ _) rfl ?_)
      exact ⟨⟨_, rfl⟩, blk_put LG.out 0 _ rfl, blk_far (p := ⟨gg, 0, none⟩) LA.out NGA.out.symm _, fun k hk h1 h2 => (Below.heap_setCell _ _ _ _ h1).trans (LB.out k hk), below_set LW.out GG.out⟩
    | true =>
      rw [Bool.true_and]
      by_cases k2 : nd.f1 ≤ y.f1
      · have k2b : decide (nd.f1 ≤ y.f1) = true := decide_eq_true k2
        rw [k2b]
        clear k2
        go_enter Try.func61, Try.ntmps61
        go_wp2
        first | go_end0 | ((try simp only [Exit.inBlock, Exit.then]); refine bodyPost_ret (results_none rfl _ _ _) rfl ?_)
        exact ⟨⟨_, rfl⟩, blk_put LG.out 0 _ rfl, blk_far (p := ⟨gg, 0, none⟩) LA.out NGA.out.symm _, fun k hk h1 h2 => (Below.heap_setCell _ _ _ _ h1).trans (LB.out k hk), below_set LW.out GG.out⟩
      · have k2b : decide (nd.f1 ≤ y.f1) = false := decide_eq_false k2
        rw [k2b]
        clear k2
        go_enter Try.func61, Try.ntmps61
        go_wp2
        first | go_end0 | ((try simp only [Exit.inBlock, Exit.then]); refine bodyPost_ret (results_none rfl _ _ _) rfl ?_)
        exact ⟨⟨_, rfl⟩, blk_put LG.out 0 _ rfl, blk_far (p := ⟨gg, 0, none⟩) LA.out NGA.out.symm _, fun k hk h1 h2 => (Below.heap_setCell _ _ _ _ h1).trans (LB.out k hk), below_set LW.out GG.out⟩
  · have k1b : (y.f1 == y.f2) = false := beq_eq_false_iff_ne.mpr k1
    have hv : vstep nd y good a = (good && decide (a ≤ y.f1) && decide (y.f2 ≤ nd.f2), mx a y.f2) := by unfold vstep; rw [if_neg k1]
    rw [hv]
    clear hv k1
    by_cases k5 : a < y.f2
    · have k5b : decide (a < y.f2) = true := decide_eq_true k5
      have hm : mx a y.f2 = y.f2 := by unfold mx; rw [if_pos k5]
      rw [hm]
      clear hm
      replace k5 := eq_true k5
      cases good with
      | false =>
        rw [Bool.false_and, Bool.false_and]
        have MA := Aside0.mk (show ((w.alloc (.cells #[.int .u8 y.f0, .int .i64 y.f1, .int .i64 y.f2, .int .i64 y.f3] 47)).setCell ⟨gg, 0, none⟩ (.bool false)).heap[ga]? = _ from blk_far (p := ⟨gg, 0, none⟩) LA.out NGA.out.symm _)
        have M6 := Aside0.mk (show ((w.alloc (.cells #[.int .u8 y.f0, .int .i64 y.f1, .int .i64 y.f2, .int .i64 y.f3] 47)).setCell ⟨gg, 0, none⟩ (.bool false)).heap[w.heap.size]? = _ from blk_far (p := ⟨gg, 0, none⟩) L6.out E2.out.symm _)
        have MG := Aside0.mk (show ((w.alloc (.cells #[.int .u8 y.f0, .int .i64 y.f1, .int .i64 y.f2, .int .i64 y.f3] 47)).setCell ⟨gg, 0, none⟩ (.bool false)).heap[gg]? = some (.cells #[.bool false] 4 (0, 0)) from blk_put LG.out 0 _ rfl)
        have ca2 : ((w.alloc (.cells #[.int .u8 y.f0, .int .i64 y.f1, .int .i64 y.f2, .int .i64 y.f3] 47)).setCell ⟨gg, 0, none⟩ (.bool false)).cell? ⟨ga, 0, none⟩ = some (.int .i64 a) := (blk_cell MA.out 0).trans rfl
        have fa2 := blk_frozen MA.out 0
        have c62 : ((w.alloc (.cells #[.int .u8 y.f0, .int .i64 y.f1, .int .i64 y.f2, .int .i64 y.f3] 47)).setCell ⟨gg, 0, none⟩ (.bool false)).cell? ⟨w.heap.size, 2, none⟩ = some (.int .i64 y.f2) := (blk_cell M6.out 2).trans rfl
        go_enter Try.func61, Try.ntmps61
        go_wp2
        first | go_end0 | ((try simp only [Exit.inBlock, Exit.then]); refine bodyPost_ret (results_none rfl _ _ _) rfl ?_)
        exact ⟨⟨_, rfl⟩, blk_far (p := ⟨ga, 0, none⟩) MG.out NGA.out _, blk_put MA.out 0 _ rfl, fun k hk h1 h2 => (Below.heap_setCell _ _ _ _ h2).trans ((Below.heap_setCell _ _ _ _ h1).trans (LB.out k hk)), below_set (below_set LW.out GG.out) GA.out⟩
      | true =>
        rw [Bool.true_and]
        by_cases k2 : a ≤ y.f1
        · have k2b : decide (a ≤ y.f1) = true := decide_eq_true k2
          rw [k2b, Bool.true_and]
          clear k2
          by_cases k3 : y.f2 ≤ nd.f2
          · have k3b : decide (y.f2 ≤ nd.f2) = true := decide_eq_true k3
            rw [k3b]
            clear k3
            have MA := Aside0.mk (show ((w.alloc (.cells #[.int .u8 y.f0, .int .i64 y.f1, .int .i64 y.f2, .int .i64 y.f3] 47)).setCell ⟨gg, 0, none⟩ (.bool true)).heap[ga]? = _ from blk_far (p := ⟨gg, 0, none⟩) LA.out NGA.out.symm _)
            have M6 := Aside0.mk (show ((w.alloc (.cells #[.int .u8 y.f0, .int .i64 y.f1, .int .i64 y.f2, .int .i64 y.f3] 47)).setCell ⟨gg, 0, none⟩ (.bool true)).heap[w.heap.size]? = _ from blk_far (p := ⟨gg, 0, none⟩) L6.out E2.out.symm _)
            have MG := Aside0.mk (show ((w.alloc (.cells #[.int .u8 y.f0, .int .i64 y.f1, .int .i64 y.f2, .int .i64 y.f3] 47)).setCell ⟨gg, 0, none⟩ (.bool true)).heap[gg]? = some (.cells #[.bool true] 4 (0, 0)) from blk_put LG.out 0 _ rfl)
            have ca2 : ((w.alloc (.cells #[.int .u8 y.f0, .int .i64 y.f1, .int .i64 y.f2, .int .i64 y.f3] 47)).setCell ⟨gg, 0, none⟩ (.bool true)).cell? ⟨ga, 0, none⟩ = some (.int .i64 a) := (blk_cell MA.out 0).trans rfl
            have fa2 := blk_frozen MA.out 0
            have c62 : ((w.alloc (.cells #[.int .u8 y.f0, .int .i64 y.f1, .int .i64 y.f2, .int .i64 y.f3] 47)).setCell ⟨gg, 0, none⟩ (.bool true)).cell? ⟨w.heap.size, 2, none⟩ = some (.int .i64 y.f2) := (blk_cell M6.out 2).trans rfl
            go_enter Try.func61, Try.ntmps61
            go_wp2
            first | go_end0 | ((try simp only [Exit.inBlock, Exit.then]); refine bodyPost_ret (results_none rfl _ _ _) rfl ?_)
            exact ⟨⟨_, rfl⟩, blk_far (p := ⟨ga, 0, none⟩) MG.out NGA.out _, blk_put MA.out 0 _ rfl, fun k hk h1 h2 => (Below.heap_setCell _ _ _ _ h2).trans ((Below.heap_setCell _ _ _ _ h1).trans (LB.out k hk)), below_set (below_set LW.out GG.out) GA.out⟩
          · have k3b : decide (y.f2 ≤ nd.f2) = false := decide_eq_false k3
            rw [k3b]
            clear k3
            have MA := Aside0.mk (show ((w.alloc (.cells #[.int .u8 y.f0, .int .i64 y.f1, .int .i64 y.f2, .int .i64 y.f3] 47)).setCell ⟨gg, 0, none⟩ (.bool false)).heap[ga]? = _ from blk_far (p := ⟨gg, 0, none⟩) LA.out NGA.out.symm _)
            have M6 := Aside0.mk (show ((w.alloc (.cells #[.int .u8 y.f0, .int .i64 y.f1, .int .i64 y.f2, .int .i64 y.f3] 47)).setCell ⟨gg, 0, none⟩ (.bool false)).heap[w.heap.size]? = _ from blk_far (p := ⟨gg, 0, none⟩) L6.out E2.out.symm _)
            have MG := Aside0.mk (show ((w.alloc (.cells #[.int .u8 y.f0, .int .i64 y.f1, .int .i64 y.f2, .int .i64 y.f3] 47)).setCell ⟨gg, 0, none⟩ (.bool false)).heap[gg]? = some (.cells #[.bool false] 4 (0, 0)) from blk_put LG.out 0 _ rfl)
            have ca2 : ((w.alloc (.cells #[.int .u8 y.f0, .int .i64 y.f1, .int .i64 y.f2, .int .i64 y.f3] 47)).setCell ⟨gg, 0, none⟩ (.bool false)).cell? ⟨ga, 0, none⟩ = some (.int .i64 a) := (blk_cell MA.out 0).trans rfl
            have fa2 := blk_frozen MA.out 0
            have c62 : ((w.alloc (.cells #[.int .u8 y.f0, .int .i64 y.f1, .int .i64 y.f2, .int .i64 y.f3] 47)).setCell ⟨gg, 0, none⟩ (.bool false)).cell? ⟨w.heap.size, 2, none⟩ = some (.int .i64 y.f2) := (blk_cell M6.out 2).trans rfl
            go_enter Try.func61, Try.ntmps61
            go_wp2
            first | go_end0 | ((try simp only [Exit.inBlock, Exit.then]); refine bodyPost_ret (results_none rfl _ _ _) rfl ?_)
            exact ⟨⟨_, rfl⟩, blk_far (p := ⟨ga, 0, none⟩) MG.out NGA.out _, blk_put MA.out 0 _ rfl, fun k hk h1 h2 => (Below.heap_setCell _ _ _ _ h2).trans ((Below.heap_setCell _ _ _ _ h1).trans (LB.out k hk)), below_set (below_set LW.out GG.out) GA.out⟩
        · have k2b : decide (a ≤ y.f1) = false := decide_eq_false k2
          rw [k2b, Bool.false_and]
          clear k2
          have MA := Aside0.mk (show ((w.alloc (.cells #[.int .u8 y.f0, .int .i64 y.f1, .int .i64 y.f2, .int .i64 y.f3] 47)).setCell ⟨gg, 0, none⟩ (.bool false)).heap[ga]? = _ from blk_far (p := ⟨gg, 0, none⟩) LA.out NGA.out.symm _)
          have M6 := Aside0.mk (show ((w.alloc (.cells #[.int .u8 y.f0, .int .i64 y.f1, .int .i64 y.f2, .int .i64 y.f3] 47)).setCell ⟨gg, 0, none⟩ (.bool false)).heap[w.heap.size]? = _ from blk_far (p := ⟨gg, 0, none⟩) L6.out E2.out.symm _)
          have MG := Aside0.mk (show ((w.alloc (.cells #[.int .u8 y.f0, .int .i64 y.f1, .int .i64 y.f2, .int .i64 y.f3] 47)).setCell ⟨gg, 0, none⟩ (.bool false)).heap[gg]? = some (.cells #[.bool false] 4 (0, 0)) from blk_put LG.out 0 _ rfl)
          have ca2 : ((w.alloc (.cells #[.int .u8 y.f0, .int .i64 y.f1, .int .i64 y.f2, .int .i64 y.f3] 47)).setCell ⟨gg, 0, none⟩ (.bool false)).cell? ⟨ga, 0, none⟩ = some (.int .i64 a) := (blk_cell MA.out 0).trans rfl
          have fa2 := blk_frozen MA.out 0
          have c62 : ((w.alloc (.cells #[.int .u8 y.f0, .int .i64 y.f1, .int .i64 y.f2, .int .i64 y.f3] 47)).setCell ⟨gg, 0, none⟩ (.bool false)).cell? ⟨w.heap.size, 2, none⟩ = some (.int .i64 y.f2) := (blk_cell M6.out 2).trans rfl
          go_enter Try.func61, Try.ntmps61
          go_wp2
          first | go_end0 | ((try simp only [Exit.inBlock, Exit.then]); refine bodyPost_ret (results_none rfl _ _ _) rfl ?_)
          exact ⟨⟨_, rfl⟩, blk_far (p := ⟨ga, 0, none⟩) MG.out NGA.out _, blk_put MA.out 0 _ rfl, fun k hk h1 h2 => (Below.heap_setCell _ _ _ _ h2).trans ((Below.heap_setCell _ _ _ _ h1).trans (LB.out k hk)), below_set (below_set LW.out GG.out) GA.out⟩
    · have k5b : decide (a < y.f2) = false := decide_eq_false k5
      have hm : mx a y.f2 = a := by unfold mx; rw [if_neg k5]
      rw [hm]
      clear hm
      replace k5 := eq_false k5
      cases good with
      | false =>
        rw [Bool.false_and, Bool.false_and]
        have MA := Aside0.mk (show ((w.alloc (.cells #[.int .u8 y.f0, .int .i64 y.f1, .int .i64 y.f2, .int .i64 y.f3] 47)).setCell ⟨gg, 0, none⟩ (.bool false)).heap[ga]? = _ from blk_far (p := ⟨gg, 0, none⟩) LA.out NGA.out.symm _)
        have M6 := Aside0.mk (show ((w.alloc (.cells #[.int .u8 y.f0, .int .i64 y.f1, .int .i64 y.f2, .int .i64 y.f3] 47)).setCell ⟨gg, 0, none⟩ (.bool false)).heap[w.heap.size]? = _ from blk_far (p := ⟨gg, 0, none⟩) L6.out E2.out.symm _)
        have MG := Aside0.mk (show ((w.alloc (.cells #[.int .u8 y.f0, .int .i64 y.f1, .int .i64 y.f2, .int .i64 y.f3] 47)).setCell ⟨gg, 0, none⟩ (.bool false)).heap[gg]? = some (.cells #[.bool false] 4 (0, 0)) from blk_put LG.out 0 _ rfl)
        have ca2 : ((w.alloc (.cells #[.int .u8 y.f0, .int .i64 y.f1, .int .i64 y.f2, .int .i64 y.f3] 47)).setCell ⟨gg, 0, none⟩ (.bool false)).cell? ⟨ga, 0, none⟩ = some (.int .i64 a) := (blk_cell MA.out 0).trans rfl
        have fa2 := blk_frozen MA.out 0
        have c62 : ((w.alloc (.cells #[.int .u8 y.f0, .int .i64 y.f1, .int .i64 y.f2, .int .i64 y.f3] 47)).setCell ⟨gg, 0, none⟩ (.bool false)).cell? ⟨w.heap.size, 2, none⟩ = some (.int .i64 y.f2) := (blk_cell M6.out 2).trans rfl
        go_enter Try.func61, Try.ntmps61
        go_wp2
        first | go_end0 | ((try simp only [Exit.inBlock, Exit.then]); refine bodyPost_ret (results_none rfl _ _ _) rfl ?_)
        exact ⟨⟨_, rfl⟩, blk_far (p := ⟨ga, 0, none⟩) MG.out NGA.out _, blk_put MA.out 0 _ rfl, fun k hk h1 h2 => (Below.heap_setCell _ _ _ _ h2).trans ((Below.heap_setCell _ _ _ _ h1).trans (LB.out k hk)), below_set (below_set LW.out GG.out) GA.out⟩
      | true =>
        rw [Bool.true_and]
        by_cases k2 : a ≤ y.f1
        · have k2b : decide (a ≤ y.f1) = true := decide_eq_true k2
          rw [k2b, Bool.true_and]
          clear k2
          by_cases k3 : y.f2 ≤ nd.f2
          · have k3b : decide (y.f2 ≤ nd.f2) = true := decide_eq_true k3
            rw [k3b]
            clear k3
            have MA := Aside0.mk (show ((w.alloc (.cells #[.int .u8 y.f0, .int .i64 y.f1, .int .i64 y.f2, .int .i64 y.f3] 47)).setCell ⟨gg, 0, none⟩ (.bool true)).heap[ga]? = _ from blk_far (p := ⟨gg, 0, none⟩) LA.out NGA.out.symm _)
            have M6 := Aside0.mk (show ((w.alloc (.cells #[.int .u8 y.f0, .int .i64 y.f1, .int .i64 y.f2, .int .i64 y.f3] 47)).setCell ⟨gg, 0, none⟩ (.bool true)).heap[w.heap.size]? = _ from blk_far (p := ⟨gg, 0, none⟩) L6.out E2.out.symm _)
            have MG := Aside0.mk (show ((w.alloc (.cells #[.int .u8 y.f0, .int .i64 y.f1, .int .i64 y.f2, .int .i64 y.f3] 47)).setCell ⟨gg, 0, none⟩ (.bool true)).heap[gg]? = some (.cells #[.bool true] 4 (0, 0)) from blk_put LG.out 0 _ rfl)
            have ca2 : ((w.alloc (.cells #[.int .u8 y.f0, .int .i64 y.f1, .int .i64 y.f2, .int .i64 y.f3] 47)).setCell ⟨gg, 0, none⟩ (.bool true)).cell? ⟨ga, 0, none⟩ = some (.int .i64 a) := (blk_cell MA.out 0).trans rfl
            have fa2 := blk_frozen MA.out 0
            have c62 : ((w.alloc (.cells #[.int .u8 y.f0, .int .i64 y.f1, .int .i64 y.f2, .int .i64 y.f3] 47)).setCell ⟨gg, 0, none⟩ (.bool true)).cell? ⟨w.heap.size, 2, none⟩ = some (.int .i64 y.f2) := (blk_cell M6.out 2).trans rfl
            go_enter Try.func61, Try.ntmps61
            go_wp2
            first | go_end0 | ((try simp only [Exit.inBlock, Exit.then]); refine bodyPost_ret (results_none rfl _ _ _) rfl ?_)
            exact ⟨⟨_, rfl⟩, blk_far (p := ⟨ga, 0, none⟩) MG.out NGA.out _, blk_put MA.out 0 _ rfl, fun k hk h1 h2 => (Below.heap_setCell _ _ _ _ h2).trans ((Below.heap_setCell _ _ _ _ h1).trans (LB.out k hk)), below_set (below_set LW.out GG.out) GA.out⟩
          · have k3b : decide (y.f2 ≤ nd.f2) = false := decide_eq_false k3
            rw [k3b]
            clear k3
            have MA := Aside0.mk (show ((w.alloc (.cells #[.int .u8 y.f0, .int .i64 y.f1, .int .i64 y.f2, .int .i64 y.f3] 47)).setCell ⟨gg, 0, none⟩ (.bool false)).heap[ga]? = _ from blk_far (p := ⟨gg, 0, none⟩) LA.out NGA.out.symm _)
            have M6 := Aside0.mk (show ((w.alloc (.cells #[.int .u8 y.f0, .int .i64 y.f1, .int .i64 y.f2, .int .i64 y.f3] 47)).setCell ⟨gg, 0, none⟩ (.bool false)).heap[w.heap.size]? = _ from blk_far (p := ⟨gg, 0, none⟩) L6.out E2.out.symm _)
            have MG := Aside0.mk (show ((w.alloc (.cells #[.int .u8 y.f0, .int .i64 y.f1, .int .i64 y.f2, .int .i64 y.f3] 47)).setCell ⟨gg, 0, none⟩ (.bool false)).heap[gg]? = some (.cells #[.bool false] 4 (0, 0)) from blk_put LG.out 0 _ rfl)
            have ca2 : ((w.alloc (.cells #[.int .u8 y.f0, .int .i64 y.f1, .int .i64 y.f2, .int .i64 y.f3] 47)).setCell ⟨gg, 0, none⟩ (.bool false)).cell? ⟨ga, 0, none⟩ = some (.int .i64 a) := (blk_cell MA.out 0).trans rfl
            have fa2 := blk_frozen MA.out 0
            have c62 : ((w.alloc (.cells #[.int .u8 y.f0, .int .i64 y.f1, .int .i64 y.f2, .int .i64 y.f3] 47)).setCell ⟨gg, 0, none⟩ (.bool false)).cell? ⟨w.heap.size, 2, none⟩ = some (.int .i64 y.f2) := (blk_cell M6.out 2).trans rfl
            go_enter Try.func61, Try.ntmps61
            go_wp2
            first | go_end0 | ((try simp only [Exit.inBlock, Exit.then]); refine bodyPost_ret (results_none rfl _ _ _) rfl ?_)
            exact ⟨⟨_, rfl⟩, blk_far (p := ⟨ga, 0, none⟩) MG.out NGA.out _, blk_put MA.out 0 _ rfl, fun k hk h1 h2 => (Below.heap_setCell _ _ _ _ h2).trans ((Below.heap_setCell _ _ _ _ h1).trans (LB.out k hk)), below_set (below_set LW.out GG.out) GA.out⟩
        · have k2b : decide (a ≤ y.f1) = false := decide_eq_false k2
          rw [k2b, Bool.false_and]
          clear k2
          have MA := Aside0.mk (show ((w.alloc (.cells #[.int .u8 y.f0, .int .i64 y.f1, .int .i64 y.f2, .int .i64 y.f3] 47)).setCell ⟨gg, 0, none⟩ (.bool false)).heap[ga]? = _ from blk_far (p := ⟨gg, 0, none⟩) LA.out NGA.out.symm _)
          have M6 := Aside0.mk (show ((w.alloc (.cells #[.int .u8 y.f0, .int .i64 y.f1, .int .i64 y.f2, .int .i64 y.f3] 47)).setCell ⟨gg, 0, none⟩ (.bool false)).heap[w.heap.size]? = _ from blk_far (p := ⟨gg, 0, none⟩) L6.out E2.out.symm _)
          have MG := Aside0.mk (show ((w.alloc (.cells #[.int .u8 y.f0, .int .i64 y.f1, .int .i64 y.f2, .int .i64 y.f3] 47)).setCell ⟨gg, 0, none⟩ (.bool false)).heap[gg]? = some (.cells #[.bool false] 4 (0, 0)) from blk_put LG.out 0 _ rfl)
          have ca2 : ((w.alloc (.cells #[.int .u8 y.f0, .int .i64 y.f1, .int .i64 y.f2, .int .i64 y.f3] 47)).setCell ⟨gg, 0, none⟩ (.bool false)).cell? ⟨ga, 0, none⟩ = some (.int .i64 a) := (blk_cell MA.out 0).trans rfl
          have fa2 := blk_frozen MA.out 0
          have c62 : ((w.alloc (.cells #[.int .u8 y.f0, .int .i64 y.f1, .int .i64 y.f2, .int .i64 y.f3] 47)).setCell ⟨gg, 0, none⟩ (.bool false)).cell? ⟨w.heap.size, 2, none⟩ = some (.int .i64 y.f2) := (blk_cell M6.out 2).trans rfl
          go_enter Try.func61, Try.ntmps61
          go_wp2
          first | go_end0 | ((try simp only [Exit.inBlock, Exit.then]); refine bodyPost_ret (results_none rfl _ _ _) rfl ?_)
          exact ⟨⟨_, rfl⟩, blk_far (p := ⟨ga, 0, none⟩) MG.out NGA.out _, blk_put MA.out 0 _ rfl, fun k hk h1 h2 => (Below.heap_setCell _ _ _ _ h2).trans ((Below.heap_setCell _ _ _ _ h1).trans (LB.out k hk)), below_set (below_set LW.out GG.out) GA.out⟩
end Go.Proofs.Ytodldpdnhcafpaa.K

-- Plain walks of regions serve in a round of a loop over an iterator (the wide fence): operation for operation.
namespace Go.Proofs.Ytodldpdnhcafpaa.K
open Go.RowKit Go.Proofs.YtodldpdnhcafpaaW.PrintWords Go.Proofs.YtodldpdnhcafpaaW.PrintLast Go.Proofs.YtodldpdnhcafpaaW.PrintMore

section
variable {P : Program} {ops : Array Oper} {Q : Exit → Act → World → Prop} {n lp : Nat}

end

/-- A loop's code by a name; what is asked behind by a name. -/
theorem name_loop {P : Program} {c : Code} {Q : Exit → Act → World → Prop} {a : Act} {w : World} (h : ∀ L, c = L → (Code.loop L).wp P Q a w) : (Code.loop c).wp P Q a w := h c rfl
theorem name_post {P : Program} {c : Code} {Q : Exit → Act → World → Prop} {a : Act} {w : World} (h : ∀ Q', Q = Q' → c.wp P Q' a w) : c.wp P Q a w := h Q rfl

theorem blk_own {A B : World} {row : Option Nat} {b t : Nat} {cs : Array Value} {d : Nat × Nat} (h : A.heap[b]? = some (.cells cs t d)) (hg : A.grownBy B row)
    (hr : ∀ r, row = some r → ∃ o : Obj, A.heap[r]? = some o ∧ o.isCells = false) : B.heap[b]? = some (.cells cs t d) :=
  (hg.block b (Array.getElem?_eq_some_iff.1 h).1 (fun e' => by
    obtain ⟨_, ho, hc⟩ := hr b e'.symm
    rw [h] at ho
    cases ho
    cases hc)).trans h
/-- What keeps all that lay keeps whatever is no cells. -/
theorem keeps_below {A B : World} (h : Below A.heap.size A B) (b : Nat) : KeepsFrom b A B :=
  ⟨h.size, fun k _ _ hk _ => (h.block k (Array.getElem?_eq_some_iff.1 hk).1).trans hk⟩

/-- The law of a loop over an iterator of one variable, at the wide fence, between plain walks. -/
theorem rf1 {P : Program} {α : Type} {g : Operand} {p s : Tmp} {assign body : Code} {Q : Exit → Act → World → Prop} {a : Act} {w : World} {gf : Nat} {lb : Array Value}
    (hg : a.eval g = .func (.func gf) #[] lb) (eg : ∀ args w, (callFunc gf args).run P w = .ok (.enter gf args) w)
    {enc : α → Value} {Kp : World → World → Prop} {S Sp : List α → Prop} {N : Nat} (hseq : SeqStopsK Fence.wide 2 P gf lb (fun x => #[enc x]) Kp S Sp N w)
    (hKt : ∀ {A B C : World}, Kp A B → Kp B C → Kp A C) (hKb : ∀ (W : World) (l : Nat) (o o' : Obj), w.heap.size ≤ l → W.heap[l]? = some o → o.isCells = false → o.isWalk = false → Kp W (W.putObj l o'))
    (I : List α → World → Prop) (Ix : Code → List α → World → Prop) (hI : OwnFrom w.heap.size I) (hIx : ∀ c, OwnFrom w.heap.size (Ix c)) (h0 : I [] w)
    (hassign : ∀ (l : Nat) (x : α) (W : World) (K : Act → World → Prop), K { tmps := (a.tmps.setIfInBounds p (enc x)).setIfInBounds s (enc x), defers := [] } W →
      assign.wpIn (Fence.wide.inRound l) 1 P (Exit.then K (fun _ _ _ => False)) { tmps := a.tmps.setIfInBounds p (enc x), defers := [] } W)
    (hbody : ∀ (l : Nat) (pre : List α) (x : α) (W : World), I pre W → pre.length < N → body.wpIn (Fence.wide.inRound l) 1 P (ownPostG w.heap.size Kp I Ix (pre ++ [x]) W) { tmps := (a.tmps.setIfInBounds p (enc x)).setIfInBounds s (enc x), defers := [] } W)
    (hdone : ∀ (D : Nat) (xs : List α) (W : World), w.heap.size ≤ D → S xs → I xs W → W.heap[D]? = some (.deferred (some [])) → Q .normal { a with defers := { target := .collected D, args := #[] } :: a.defers } W)
    (hstop : ∀ (D : Nat) (c : Code) (pre : List α) (W : World), w.heap.size ≤ D → Sp pre → Ix c pre W → W.heap[D]? = some (.deferred (some [])) → c.wp P Q { a with defers := { target := .collected D, args := #[] } :: a.defers } W) :
    (Code.rangeFunc g #[p] assign body).wp P Q a w :=
  (wpIn_wide (n := 3)).1 (wpIn_rangeFunc_ownG (F := Fence.wide) (n := 3) rfl (by omega) hg trivial eg hseq (fun h k => hKt h k) hKb (Below.refl _ _) (fun _ => rfl) I Ix hI hIx h0 _ (fun l x W K hK => by simpa using hassign l x W K hK) hbody hdone
    (fun D c pre W a b c' d => wpIn_wide.2 (hstop D c pre W a b c' d)))

/-- All that lay lies as it lay, but for one box. -/
def KeepB (W0 : World) (g : Nat) (W : World) : Prop := W0.heap.size ≤ W.heap.size ∧ ∀ k, k < W0.heap.size → k ≠ g → W.heap[k]? = W0.heap[k]?
theorem KeepB.refl (W0 : World) (g : Nat) : KeepB W0 g W0 := ⟨Nat.le_refl _, fun _ _ _ => rfl⟩
theorem KeepB.blk {W0 W : World} {g b : Nat} {o : Obj} (h : KeepB W0 g W) (hb : W0.heap[b]? = some o) (hne : b ≠ g) : W.heap[b]? = some o := (h.2 b (blk_lt hb) hne).trans hb
theorem KeepB.R {α : Type} {d : Kd α} {e base g : Nat} {v : Value} {xs : List α} {W0 W : World} (h : KeepB W0 g W) (hR : d.R e W0 base (fun k => k ≠ g) v xs) : d.R e W base (fun k => k ≠ g) v xs :=
  Kd.R_step hR (fun k hk hlt => h.2 k hlt hk)
theorem KeepB.trans {W0 W W' : World} {g : Nat} (h : KeepB W0 g W) (h' : W.heap.size ≤ W'.heap.size) (hk : ∀ k, k < W0.heap.size → k ≠ g → W'.heap[k]? = W.heap[k]?) : KeepB W0 g W' :=
  ⟨Nat.le_trans h.1 h', fun k h1 h2 => (hk k h1 h2).trans (h.2 k h1 h2)⟩
theorem keepB_own {s : Type} (W0 : World) (g : Nat) : OwnFrom W0.heap.size (fun (_ : s) W => KeepB W0 g W) :=
  fun _ A B row h hg hr => h.trans hg.size (fun k hk _ => hg.block k (Nat.lt_of_lt_of_le hk h.1) (fun e => by have := (hr k e.symm).1; omega))
end Go.Proofs.Ytodldpdnhcafpaa.K

-- tokens (53, 62): the iterator's contract
namespace Go.Proofs.Ytodldpdnhcafpaa.K
open Go.RowKit Go.Shelf Go.Proofs.YtodldpdnhcafpaaW.PrintWords Go.Proofs.YtodldpdnhcafpaaW.PrintLast Go.Proofs.YtodldpdnhcafpaaW.PrintMore
open Go.Proofs.Ytodldpdnhcafpaa.F
attribute [local go_sem] Oper.semAt_some max2_int min2_int max_two min_two
set_option linter.unusedVariables false
set_option linter.unusedSimpArgs false

/-- What a round keeps: what lay ahead of the call, the two boxes. -/
def KpT (n₀ b1 b2 : Nat) (W W' : World) : Prop := Below n₀ W W' ∧ W'.heap[b1]? = W.heap[b1]? ∧ W'.heap[b2]? = W.heap[b2]?
theorem KpT.trans {n₀ b1 b2 : Nat} {A B C : World} (h : KpT n₀ b1 b2 A B) (k : KpT n₀ b1 b2 B C) : KpT n₀ b1 b2 A C := ⟨h.1.trans k.1, k.2.1.trans h.2.1, k.2.2.trans h.2.2⟩
theorem KpT.refl (n₀ b1 b2 : Nat) (A : World) : KpT n₀ b1 b2 A A := ⟨Below.refl _ _, rfl, rfl⟩

end Go.Proofs.Ytodldpdnhcafpaa.K

-- Text (29): its contract (made by wip/mkgtext.py)
namespace Go.Proofs.Ytodldpdnhcafpaa.F
open Go.RowKit Go.Shelf Go.Proofs.YtodldpdnhcafpaaW.PrintWords Go.Proofs.YtodldpdnhcafpaaW.PrintLast Go.Proofs.YtodldpdnhcafpaaW.PrintMore
open Go.Proofs.Ytodldpdnhcafpaa.K
attribute [local go_sem] Oper.semAt_some
set_option linter.unusedVariables false
set_option linter.unusedSimpArgs false

/-- The normal way out alone. -/
def onlyN (Q : Exit → Act → World → Prop) : Exit → Act → World → Prop
  | .normal, a, w => Q .normal a w
  | _, _, _ => False
theorem onlyN_normal {Q : Exit → Act → World → Prop} {a : Act} {w : World} : onlyN Q .normal a w = Q .normal a w := rfl
theorem start_n {P : Program} {ops : Array Oper} {Q : Exit → Act → World → Prop} {S : World → Prop} {ds : List Nat} {id n : Nat} {a : Act} {w : World} (l : Array Bool) (hm : P.follows .mixedOrders = true) (hn : ops.size = n) (hl : Array.replicate n false = l) (hS : S w.drew)
    (h : S w.drew → wpAnyLast P .any ops (onlyN Q) S ds n l a w.drew) : (Code.region id ops true).wp P Q a w :=
  wp_mono (start_ l hm hn hl hS h) (fun e a w h => by cases e <;> first | exact h | exact h.elim)
end Go.Proofs.Ytodldpdnhcafpaa.F

-- Same (33): its contract (made by wip/mkgsame.py)
namespace Go.Proofs.Ytodldpdnhcafpaa.F
open Go.RowKit Go.Shelf Go.Proofs.YtodldpdnhcafpaaW.PrintWords Go.Proofs.YtodldpdnhcafpaaW.PrintLast Go.Proofs.YtodldpdnhcafpaaW.PrintMore
open Go.Proofs.Ytodldpdnhcafpaa.K
attribute [local go_sem] Oper.semAt_some
set_option linter.unusedVariables false
set_option linter.unusedSimpArgs false

def mark (D : Nat) : Deferred := { target := .collected D, args := #[] }
theorem marks_set {w W : World} {g8 : Nat} {ds : List Nat} {v : Value} {cs : Array Value} {t : Nat} {d : Nat × Nat} (hm : ∀ D ∈ ds, w.heap.size ≤ D ∧ W.heap[D]? = some (.deferred (some []))) (h8 : W.heap[g8]? = some (.cells cs t d)) :
    ∀ D ∈ ds, w.heap.size ≤ D ∧ (W.setCell ⟨g8, 0, none⟩ v).heap[D]? = some (.deferred (some [])) := fun D hD =>
  ⟨(hm D hD).1, (Below.heap_setCell W ⟨g8, 0, none⟩ v D (fun e => by have := (hm D hD).2; rw [e, h8] at this; cases this)).trans (hm D hD).2⟩
theorem marks_below {w W W' : World} {ds : List Nat} (hm : ∀ D ∈ ds, w.heap.size ≤ D ∧ W.heap[D]? = some (.deferred (some []))) (hb : Below W.heap.size W W') :
    ∀ D ∈ ds, w.heap.size ≤ D ∧ W'.heap[D]? = some (.deferred (some [])) := fun D hD => ⟨(hm D hD).1, blk_below (hm D hD).2 hb⟩

end Go.Proofs.Ytodldpdnhcafpaa.F

namespace Go.Proofs.Ytodldpdnhcafpaa.F
open Go.RowKit Go.Proofs.YtodldpdnhcafpaaW.PrintWords Go.Proofs.YtodldpdnhcafpaaW.PrintLast Go.Proofs.YtodldpdnhcafpaaW.PrintMore
open Go.Proofs.Ytodldpdnhcafpaa.K
set_option linter.unusedVariables false
set_option linter.unusedSimpArgs false

def tree_Kids.f (k : Nat) (l : List S47) (n : Int) : Option (List Int) := (kids.f k l n).bind fun r => if r.1.length < 17592186044415 then some (if r.2 = true then r.1 else []) else none
/-- What the captured variable holds. -/
def KJ (w0 : World) (g5 : Nat) (gb : Nat) (pre : List Int) (W : World) : Prop :=
  gb ≠ g5 ∧ ∃ v, W.heap[g5]? = some (.cells #[v] 33 (0, 0)) ∧ (Kd.int .i64).R 3 W w0.heap.size (fun k => k ≠ gb ∧ k ≠ g5) v pre
set_option maxHeartbeats 2000000 in
theorem tree_Kids.calls (k : Nat) (A : Option Addr) (c : Nat) (l : List S47) (n : Int) (r : List Int) (w : World) (hr : Kd.C k47 w A l.length l) (hc : l.length ≤ c) (h : tree_Kids.f k l n = some r) :
    Calls Try.prog 35 #[.agg #[.slice A l.length c], .int .i64 n] w fun e w' => ∃ v0_ : Value, e = .returned (v0_) ∧ Kd.R (Kd.int .i64) 3 w' w.heap.size (fun _ => True) v0_ r ∧ Below w.heap.size w w' := by
  have hu25 := Try.underlying25
  have hu33 := Try.underlying33
  obtain ⟨⟨ks, ok⟩, hk, h⟩ := Option.bind_eq_some_iff.1 h
  have hlen : ks.length < 17592186044415 := Classical.byContradiction fun hh => by rw [if_neg hh] at h; cases h
  rw [if_pos hlen] at h
  simp only [Option.some.injEq] at h
  have HL := Aside0.mk hlen
  have HF := Aside0.mk hk
  have HE := Aside0.mk h
  have HR := Aside0.mk hr
  have HC := Aside0.mk hc
  clear hlen hk h hr hc
  have HB := Aside0.mk (Below.refl w.heap.size w)
  have EG : ∀ args W, (callFunc 57 args).run Try.prog W = .ok (.enter 57 args) W := fun args W => enters_ Try.func57 (by kernel_rfl) rfl args W
  have EG' := Aside0.mk EG
  clear EG
  go_enter Try.func35, Try.ntmps35
  go_wp2_with (first
    | ((with_reducible refine gate_dst (N := 2) rfl ?_); refine box_event ?hg2 (N := 2) ?hd2 (cs := #[.slice A l.length c]) (t := 25) ?hr2 ?_; (case hd2 => rfl); (case hg2 => rfl); (case hr2 => first | (go_simp; done) | (go_simp; rfl)); intro g2 hg w1 hbox hb; have n0_ := Aside0.mk (below_step HB.out hb); have n1_ := Aside0.mk hbox; clear HB; have HB := n0_; have BK2 := n1_; clear n0_ n1_ hb hbox hg; have hcz2 : w1.cell? ⟨g2, 0, none⟩ = some (.slice A l.length c) := (blk_cell BK2.out 0).trans rfl)
    | ((with_reducible refine gate_dst (N := 5) rfl ?_); refine box_event ?hg5 (N := 5) ?hd5 (cs := #[.slice none 0 0]) (t := 33) ?hr5 ?_; (case hd5 => rfl); (case hg5 => rfl); (case hr5 => first | (go_simp; done) | (go_simp; rfl)); intro g5 hg w2 hbox hb; have n0_ := Aside0.mk (below_step HB.out hb); have n1_ := Aside0.mk hbox; have n2_ := Aside0.mk (blk_below BK2.out hb); have n3_ := Aside0.mk (show w.heap.size ≤ g5 by rw [hg]; exact HB.out.size); clear HB BK2 hcz2; have HB := n0_; have BK5 := n1_; have BK2 := n2_; have GE5 := n3_; clear n0_ n1_ n2_ n3_ hb hbox hg; have hcz2 : w2.cell? ⟨g2, 0, none⟩ = some (.slice A l.length c) := (blk_cell BK2.out 0).trans rfl; have hcz5 : w2.cell? ⟨g5, 0, none⟩ = some (.slice none 0 0) := (blk_cell BK5.out 0).trans rfl))
  refine (kids.calls 57 #[.pointer (some ⟨g5, 0, none⟩)] EG'.out (KJ w g5) k A c l n ks ok w _ HR.out HC.out HB.out HF.out ?h0 ?hal ?hY).mono ?_
  case h0 => exact fun gb hgb => ⟨fun e => by have := blk_lt BK5.out; omega, _, BK5.out, Kd.R_nil _ _ _ _ _⟩
  case hal =>
    rintro gb pre W W' ⟨h1, v, h2, h3⟩ hb
    exact ⟨h1, v, blk_below h2 hb, Kd.R_below h3 hb⟩
  case hY =>
    rintro gb pre x W hp h0 h1 ⟨j1, v, j2, j3⟩ hge hlt hbW
    have hpl : pre.length < 17592186044415 := by
      have := hp.length_le
      rw [List.length_append, List.length_singleton] at this
      have := HL.out
      omega
    refine (kids1.calls x g5 gb v pre w W j2 j3 hpl hbW GE5.out j1 hlt).mono ?_
    rintro e w' ⟨hv, ⟨v', b1, b2⟩, b3, b4⟩
    exact ⟨hv, ⟨j1, v', b1, b2⟩, b3, b4⟩
  rintro e w3 ⟨rfl, ⟨gb, hj⟩, hb3⟩
  have HJ := Aside0.mk hj
  have HB3 := Aside0.mk hb3
  clear hj hb3 hcz2 hcz5
  cases ok with
  | false =>
    have he := HE.out
    simp only [Bool.false_eq_true, if_false] at he
    subst he
    go_wp2
    go_ret
    exact ⟨_, rfl, Kd.R_nil _ _ _ _ _, HB3.out⟩
  | true =>
    have he := HE.out
    simp only [if_true] at he
    subst he
    obtain ⟨j1, v, j2, j3⟩ := HJ.out
    obtain ⟨Av, cv, rfl⟩ := Kd.R_slice j3
    have hc5 : w3.cell? ⟨g5, 0, none⟩ = some (.slice Av ks.length cv) := (blk_cell j2 0).trans rfl
    have J3 := Aside0.mk j3
    clear j1 j2 j3 HJ
    go_wp2
    go_ret
    exact ⟨_, rfl, Kd.R_mono J3.out (fun _ _ => trivial), HB3.out⟩
end Go.Proofs.Ytodldpdnhcafpaa.F

namespace Go.Proofs.Ytodldpdnhcafpaa.F
open Go.RowKit Go.Proofs.YtodldpdnhcafpaaW.PrintWords Go.Proofs.YtodldpdnhcafpaaW.PrintLast Go.Proofs.YtodldpdnhcafpaaW.PrintMore
open Go.Proofs.Ytodldpdnhcafpaa.K
set_option linter.unusedVariables false
set_option linter.unusedSimpArgs false

/-- The i-th of a list, or -1. -/
def pick (l : List Int) (i : Int) : Int := if 0 ≤ i ∧ i < (l.length : Int) then l.getD i.toNat 0 else -1
theorem pick_snoc (l : List Int) (x i : Int) : (if (l.length : Int) = i then x else pick l i) = pick (l ++ [x]) i := by
  unfold pick
  by_cases h : (l.length : Int) = i
  · rw [if_pos h, if_pos (by rw [List.length_append, List.length_singleton]; omega), show i.toNat = l.length by omega]
    simp
  · rw [if_neg h]
    by_cases h2 : 0 ≤ i ∧ i < (l.length : Int)
    · rw [if_pos h2, if_pos (by rw [List.length_append, List.length_singleton]; omega)]
      simp [List.getD_eq_getElem?_getD, List.getElem?_append_left (show i.toNat < l.length by omega)]
    · rw [if_neg h2, if_neg (by rw [List.length_append, List.length_singleton]; omega)]
def tree_Kid.f (k : Nat) (l : List S47) (n i : Int) : Option Int := (kids.f k l n).bind fun r => if r.1.length < 17592186044415 then some (if r.2 = true then pick r.1 i else -1) else none
def KidJ (g7 g5 g8 : Nat) (i : Int) (gb : Nat) (pre : List Int) (W : World) : Prop :=
  gb ≠ g7 ∧ gb ≠ g8 ∧ W.heap[g7]? = some (.cells #[.int .i64 (pre.length : Int)] 3 (0, 0)) ∧ W.heap[g5]? = some (.cells #[.int .i64 i] 3 (0, 0)) ∧ W.heap[g8]? = some (.cells #[.int .i64 (pick pre i)] 3 (0, 0))
set_option maxHeartbeats 2000000 in
theorem tree_Kid.calls (k : Nat) (A : Option Addr) (c : Nat) (l : List S47) (n i : Int) (r : Int) (w : World) (hr : Kd.C k47 w A l.length l) (hc : l.length ≤ c) (h : tree_Kid.f k l n i = some r) :
    Calls Try.prog 37 #[.agg #[.slice A l.length c], .int .i64 n, .int .i64 i] w fun e w' => e = .returned (.int .i64 r) ∧ Below w.heap.size w w' := by
  have hu25 := Try.underlying25
  obtain ⟨⟨ks, ok⟩, hk, h⟩ := Option.bind_eq_some_iff.1 h
  have hlen : ks.length < 17592186044415 := Classical.byContradiction fun hh => by rw [if_neg hh] at h; cases h
  rw [if_pos hlen] at h
  simp only [Option.some.injEq] at h
  have HL := Aside0.mk hlen
  have HF := Aside0.mk hk
  have HE := Aside0.mk h
  have HR := Aside0.mk hr
  have HC := Aside0.mk hc
  clear hlen hk h hr hc
  have HB := Aside0.mk (Below.refl w.heap.size w)
  have EG : ∀ args W, (callFunc 58 args).run Try.prog W = .ok (.enter 58 args) W := fun args W => enters_ Try.func58 (by kernel_rfl) rfl args W
  have EG' := Aside0.mk EG
  clear EG
  go_enter Try.func37, Try.ntmps37
  go_wp2_with (first
    | ((with_reducible refine gate_dst (N := 3) rfl ?_); refine box_event ?hg2 (N := 3) ?hd2 (cs := #[.slice A l.length c]) (t := 25) ?hr2 ?_; (case hd2 => rfl); (case hg2 => rfl); (case hr2 => first | (go_simp; done) | (go_simp; rfl)); intro g2 hg w1 hbox hb; have n0_ := Aside0.mk (below_step HB.out hb); have n1_ := Aside0.mk hbox; clear HB; have HB := n0_; have BK2 := n1_; clear n0_ n1_ hb hbox hg; have hcz2 : w1.cell? ⟨g2, 0, none⟩ = some (.slice A l.length c) := (blk_cell BK2.out 0).trans rfl)
    | ((with_reducible refine gate_dst (N := 5) rfl ?_); refine box_event ?hg5 (N := 5) ?hd5 (cs := #[.int .i64 i]) (t := 3) ?hr5 ?_; (case hd5 => rfl); (case hg5 => rfl); (case hr5 => first | (go_simp; done) | (go_simp; rfl)); intro g5 hg w2 hbox hb; have n0_ := Aside0.mk (below_step HB.out hb); have n1_ := Aside0.mk hbox; have n2_ := Aside0.mk (blk_below BK2.out hb); clear HB BK2 hcz2; have HB := n0_; have BK5 := n1_; have BK2 := n2_; clear n0_ n1_ n2_ hb hbox hg; have hcz2 : w2.cell? ⟨g2, 0, none⟩ = some (.slice A l.length c) := (blk_cell BK2.out 0).trans rfl; have hcz5 : w2.cell? ⟨g5, 0, none⟩ = some (.int .i64 i) := (blk_cell BK5.out 0).trans rfl)
    | ((with_reducible refine gate_dst (N := 7) rfl ?_); refine box_event ?hg7 (N := 7) ?hd7 (cs := #[.int .i64 0]) (t := 3) ?hr7 ?_; (case hd7 => rfl); (case hg7 => rfl); (case hr7 => first | (go_simp; done) | (go_simp; rfl)); intro g7 hg w3 hbox hb; have n0_ := Aside0.mk (below_step HB.out hb); have n1_ := Aside0.mk hbox; have n2_ := Aside0.mk (blk_below BK2.out hb); have n3_ := Aside0.mk (show w.heap.size ≤ g7 by rw [hg]; exact HB.out.size); have n4_ := Aside0.mk (blk_below BK5.out hb); have n5_ := Aside0.mk (show g7 ≠ g5 by rw [hg]; exact (Nat.ne_of_lt (blk_lt BK5.out)).symm); clear HB BK2 hcz2 BK5 hcz5; have HB := n0_; have BK7 := n1_; have BK2 := n2_; have GE7 := n3_; have BK5 := n4_; have N75 := n5_; clear n0_ n1_ n2_ n3_ n4_ n5_ hb hbox hg; have hcz2 : w3.cell? ⟨g2, 0, none⟩ = some (.slice A l.length c) := (blk_cell BK2.out 0).trans rfl; have hcz7 : w3.cell? ⟨g7, 0, none⟩ = some (.int .i64 0) := (blk_cell BK7.out 0).trans rfl; have hf7 := blk_frozen BK7.out 0)
    | ((with_reducible refine gate_dst (N := 8) rfl ?_); refine box_event ?hg8 (N := 8) ?hd8 (cs := #[.int .i64 0]) (t := 3) ?hr8 ?_; (case hd8 => rfl); (case hg8 => rfl); (case hr8 => first | (go_simp; done) | (go_simp; rfl)); intro g8 hg w4 hbox hb; have n0_ := Aside0.mk (below_step HB.out hb); have n1_ := Aside0.mk hbox; have n2_ := Aside0.mk (blk_below BK2.out hb); have n3_ := Aside0.mk (show w.heap.size ≤ g8 by rw [hg]; exact HB.out.size); have n4_ := Aside0.mk (blk_below BK5.out hb); have n5_ := Aside0.mk (blk_below BK7.out hb); have n6_ := Aside0.mk (show g8 ≠ g5 by rw [hg]; exact (Nat.ne_of_lt (blk_lt BK5.out)).symm); have n7_ := Aside0.mk (show g8 ≠ g7 by rw [hg]; exact (Nat.ne_of_lt (blk_lt BK7.out)).symm); have n8_ := Aside0.mk (show g8 ≠ g2 by rw [hg]; exact (Nat.ne_of_lt (blk_lt BK2.out)).symm); clear HB BK2 hcz2 BK5 BK7 hcz7 hf7; have HB := n0_; have BK8 := n1_; have BK2 := n2_; have GE8 := n3_; have BK5 := n4_; have BK7 := n5_; have N85 := n6_; have N87 := n7_; have N82 := n8_; clear n0_ n1_ n2_ n3_ n4_ n5_ n6_ n7_ n8_ hb hbox hg; have hcz7 : w4.cell? ⟨g7, 0, none⟩ = some (.int .i64 0) := (blk_cell BK7.out 0).trans rfl; have hf7 := blk_frozen BK7.out 0; have K7 := Aside0.mk (blk_put BK7.out 0 (.int .i64 0) rfl); have K8 := Aside0.mk (blk_far (p := ⟨g7, 0, none⟩) BK8.out N87.out (.int .i64 0)); have K5 := Aside0.mk (blk_far (p := ⟨g7, 0, none⟩) BK5.out N75.out.symm (.int .i64 0)); have N72 := Aside0.mk (blk_ne BK7.out BK2.out (by decide)); have K2 := Aside0.mk (blk_far (p := ⟨g7, 0, none⟩) BK2.out N72.out.symm (.int .i64 0)); have hcz8 : (w4.setCell ⟨g7, 0, none⟩ (.int .i64 0)).cell? ⟨g8, 0, none⟩ = some (.int .i64 0) := (blk_cell K8.out 0).trans rfl; have hf8 := blk_frozen K8.out 0; have L2 := Aside0.mk (blk_far (p := ⟨g8, 0, none⟩) K2.out N82.out.symm (.int .i64 (-1))); have hcz2 : ((w4.setCell ⟨g7, 0, none⟩ (.int .i64 0)).setCell ⟨g8, 0, none⟩ (.int .i64 (-1))).cell? ⟨g2, 0, none⟩ = some (.slice A l.length c) := (blk_cell L2.out 0).trans rfl))
  have hbn : Below w.heap.size w ((w4.setCell ⟨g7, 0, none⟩ (.int .i64 0)).setCell ⟨g8, 0, none⟩ (.int .i64 (-1))) := below_set (below_set HB.out GE7.out) GE8.out
  have k7 : ((w4.setCell ⟨g7, 0, none⟩ (.int .i64 0)).setCell ⟨g8, 0, none⟩ (.int .i64 (-1))).heap[g7]? = some (.cells #[.int .i64 0] 3 (0, 0)) := blk_far (p := ⟨g8, 0, none⟩) K7.out N87.out.symm _
  have k5 : ((w4.setCell ⟨g7, 0, none⟩ (.int .i64 0)).setCell ⟨g8, 0, none⟩ (.int .i64 (-1))).heap[g5]? = some (.cells #[.int .i64 i] 3 (0, 0)) := blk_far (p := ⟨g8, 0, none⟩) K5.out N85.out.symm _
  have k8 : ((w4.setCell ⟨g7, 0, none⟩ (.int .i64 0)).setCell ⟨g8, 0, none⟩ (.int .i64 (-1))).heap[g8]? = some (.cells #[.int .i64 (-1)] 3 (0, 0)) := blk_put K8.out 0 _ rfl
  refine (kids.calls 58 #[.pointer (some ⟨g7, 0, none⟩), .pointer (some ⟨g5, 0, none⟩), .pointer (some ⟨g8, 0, none⟩)] EG'.out (KidJ g7 g5 g8 i) k A c l n ks ok w _ HR.out HC.out hbn HF.out ?h0 ?hal ?hY).mono ?_
  case h0 => exact fun gb hgb => ⟨fun e => by have := blk_lt k7; omega, fun e => by have := blk_lt k8; omega, k7, k5, by unfold pick; rw [if_neg (by simp)]; exact k8⟩
  case hal =>
    rintro gb pre W W' ⟨h1, h2, h3, h4, h5⟩ hb
    exact ⟨h1, h2, blk_below h3 hb, blk_below h4 hb, blk_below h5 hb⟩
  case hY =>
    rintro gb pre x W hp h0 h1 ⟨j1, j2, j3, j4, j5⟩ hge hlt hbW
    have hpl : pre.length < 17592186044415 := by
      have := hp.length_le
      rw [List.length_append, List.length_singleton] at this
      have := HL.out
      omega
    refine (kid1.calls x pre.length i (pick pre i) g7 g5 g8 gb w W j3 j4 j5 N75.out N87.out.symm N85.out.symm j1 j2 hbW GE7.out GE8.out).mono ?_
    rintro e w' ⟨hv, b1, b2, b3, b4, b5⟩
    refine ⟨hv, ⟨j1, j2, ?_, b2, ?_⟩, b4, b5⟩
    · rw [show wrap64 ((pre.length : Int) + 1) = ((pre ++ [x]).length : Int) by rw [List.length_append, List.length_singleton]; unfold wrap64; omega] at b1
      exact b1
    · rw [pick_snoc] at b3
      exact b3
  rintro e w5 ⟨rfl, ⟨gb, hj⟩, hb3⟩
  have HJ := Aside0.mk hj
  have HB3 := Aside0.mk hb3
  clear hj hb3 hcz2 hcz7 hcz8 hf7 hf8 hbn k7 k5 k8
  cases ok with
  | false =>
    have he := HE.out
    simp only [Bool.false_eq_true, if_false] at he
    subst he
    go_wp2
    go_ret
    exact ⟨rfl, HB3.out⟩
  | true =>
    have he := HE.out
    simp only [if_true] at he
    subst he
    obtain ⟨j1, j2, j3, j4, j5⟩ := HJ.out
    have hc5 : w5.cell? ⟨g8, 0, none⟩ = some (.int .i64 (pick ks i)) := (blk_cell j5 0).trans rfl
    clear j1 j2 j3 j4 j5 HJ
    go_wp2
    go_ret
    exact ⟨rfl, HB3.out⟩
end Go.Proofs.Ytodldpdnhcafpaa.F

namespace Go.Proofs.Ytodldpdnhcafpaa.F
open Go.RowKit Go.Proofs.YtodldpdnhcafpaaW.PrintWords Go.Proofs.YtodldpdnhcafpaaW.PrintLast Go.Proofs.YtodldpdnhcafpaaW.PrintMore
open Go.Proofs.Ytodldpdnhcafpaa.K
set_option linter.unusedVariables false
set_option linter.unusedSimpArgs false

def metOf (n : Int) (l : List Int) : Bool := l.any fun x => decide (x = n)
theorem metOf_snoc (n x : Int) (l : List Int) : (metOf n l || decide (x = n)) = metOf n (l ++ [x]) := by simp [metOf]
def tree_Up.l0 : Nat → List S47 → Int → Int → Option Int
  | 0, _, _, _ => none
  | k + 1, l, n, p => if 0 ≤ p then (if p < (l.length : Int) then (if (rd_T47 l p).f3 ≤ wrap64 (n - p) then tree_Up.l0 k l n (wrap64 (p - 1)) else (kids.f k l p).bind fun r => (if r.2 = true then (if metOf n r.1 = true then some p else tree_Up.l0 k l n (wrap64 (p - 1))) else tree_Up.l0 k l n (wrap64 (p - 1)))) else none) else some (-1)
def tree_Up.f (k : Nat) (l : List S47) (n : Int) : Option Int := if n < 0 then some (-1) else if n ≥ (l.length : Int) then some (-1) else tree_Up.l0 k l n (wrap64 (n - 1))
def UpJ (g6 g3 g2 : Nat) (v2 : Value) (n : Int) (gb : Nat) (pre : List Int) (W : World) : Prop :=
  gb ≠ g6 ∧ g2 ≠ g6 ∧ W.heap[g2]? = some (.cells #[v2] 25 (0, 0)) ∧ W.heap[g6]? = some (.cells #[.bool (metOf n pre)] 4 (0, 0)) ∧ W.heap[g3]? = some (.cells #[.int .i64 n] 3 (0, 0))
set_option maxHeartbeats 8000000 in
set_option maxRecDepth 100000 in
theorem tree_Up.calls (k : Nat) (A : Option Addr) (c : Nat) (l : List S47) (n : Int) (r : Int) (w : World) (hr : Kd.C k47 w A l.length l) (hc : l.length ≤ c) (h : tree_Up.f k l n = some r) :
    Calls Try.prog 31 #[.agg #[.slice A l.length c], .int .i64 n] w fun e w' => e = .returned (.int .i64 r) ∧ Below w.heap.size w w' := by
  have hu25 := Try.underlying25
  have HF := Aside0.mk h
  have HR := Aside0.mk hr
  have HC := Aside0.mk hc
  clear h hr hc
  have HB := Aside0.mk (Below.refl w.heap.size w)
  have EG : ∀ args W, (callFunc 56 args).run Try.prog W = .ok (.enter 56 args) W := fun args W => enters_ Try.func56 (by kernel_rfl) rfl args W
  have EG' := Aside0.mk EG
  clear EG
  have H := HF.out
  unfold tree_Up.f at H
  by_cases d1 : n < 0
  · rw [if_pos d1] at H
    have d1b : decide (n < 0) = true := decide_eq_true d1
    clear d1
    obtain rfl := Option.some.inj H
    clear H HF
    go_enter Try.func31, Try.ntmps31
    go_wp2_with (first
      | ((with_reducible refine gate_dst (N := 2) rfl ?_); refine box_event ?hg2 (N := 2) ?hd2 (cs := #[.slice A l.length c]) (t := 25) ?hr2 ?_; (case hd2 => rfl); (case hg2 => rfl); (case hr2 => first | (go_simp; done) | (go_simp; rfl)); intro g2 hg w1 hbox hb; have n0_ := Aside0.mk (below_step HB.out hb); have n1_ := Aside0.mk hbox; clear HB; have HB := n0_; have BK2 := n1_; clear n0_ n1_ hb hbox hg; have hcz2 : w1.cell? ⟨g2, 0, none⟩ = some (.slice A l.length c) := (blk_cell BK2.out 0).trans rfl)
      | ((with_reducible refine gate_dst (N := 3) rfl ?_); refine box_event ?hg3 (N := 3) ?hd3 (cs := #[.int .i64 n]) (t := 3) ?hr3 ?_; (case hd3 => rfl); (case hg3 => rfl); (case hr3 => first | (go_simp; done) | (go_simp; rfl)); intro g3 hg w2 hbox hb; have n0_ := Aside0.mk (below_step HB.out hb); have n1_ := Aside0.mk hbox; have n2_ := Aside0.mk (blk_below BK2.out hb); clear HB BK2 hcz2; have HB := n0_; have BK3 := n1_; have BK2 := n2_; clear n0_ n1_ n2_ hb hbox hg; have hcz2 : w2.cell? ⟨g2, 0, none⟩ = some (.slice A l.length c) := (blk_cell BK2.out 0).trans rfl; have hcz3 : w2.cell? ⟨g3, 0, none⟩ = some (.int .i64 n) := (blk_cell BK3.out 0).trans rfl))
    go_ret
    exact ⟨rfl, HB.out⟩
  · rw [if_neg d1] at H
    have d1b : decide (n < 0) = false := decide_eq_false d1
    by_cases d2 : n ≥ (l.length : Int)
    · rw [if_pos d2] at H
      have d2b : decide ((l.length : Int) ≤ n) = true := decide_eq_true d2
      clear d1 d2
      obtain rfl := Option.some.inj H
      clear H HF
      go_enter Try.func31, Try.ntmps31
      go_wp2_with (first
        | ((with_reducible refine gate_dst (N := 2) rfl ?_); refine box_event ?hg2 (N := 2) ?hd2 (cs := #[.slice A l.length c]) (t := 25) ?hr2 ?_; (case hd2 => rfl); (case hg2 => rfl); (case hr2 => first | (go_simp; done) | (go_simp; rfl)); intro g2 hg w1 hbox hb; have n0_ := Aside0.mk (below_step HB.out hb); have n1_ := Aside0.mk hbox; clear HB; have HB := n0_; have BK2 := n1_; clear n0_ n1_ hb hbox hg; have hcz2 : w1.cell? ⟨g2, 0, none⟩ = some (.slice A l.length c) := (blk_cell BK2.out 0).trans rfl)
        | ((with_reducible refine gate_dst (N := 3) rfl ?_); refine box_event ?hg3 (N := 3) ?hd3 (cs := #[.int .i64 n]) (t := 3) ?hr3 ?_; (case hd3 => rfl); (case hg3 => rfl); (case hr3 => first | (go_simp; done) | (go_simp; rfl)); intro g3 hg w2 hbox hb; have n0_ := Aside0.mk (below_step HB.out hb); have n1_ := Aside0.mk hbox; have n2_ := Aside0.mk (blk_below BK2.out hb); clear HB BK2 hcz2; have HB := n0_; have BK3 := n1_; have BK2 := n2_; clear n0_ n1_ n2_ hb hbox hg; have hcz2 : w2.cell? ⟨g2, 0, none⟩ = some (.slice A l.length c) := (blk_cell BK2.out 0).trans rfl; have hcz3 : w2.cell? ⟨g3, 0, none⟩ = some (.int .i64 n) := (blk_cell BK3.out 0).trans rfl))
      go_ret
      exact ⟨rfl, HB.out⟩
    · rw [if_neg d2] at H
      have d2b : decide ((l.length : Int) ≤ n) = false := decide_eq_false d2
      clear d1 d2
      have H' := Aside0.mk H
      clear H HF
      go_enter Try.func31, Try.ntmps31
      go_wp2_with (first
        | ((with_reducible refine gate_dst (N := 2) rfl ?_); refine box_event ?hg2 (N := 2) ?hd2 (cs := #[.slice A l.length c]) (t := 25) ?hr2 ?_; (case hd2 => rfl); (case hg2 => rfl); (case hr2 => first | (go_simp; done) | (go_simp; rfl)); intro g2 hg w1 hbox hb; have n0_ := Aside0.mk (below_step HB.out hb); have n1_ := Aside0.mk hbox; clear HB; have HB := n0_; have BK2 := n1_; clear n0_ n1_ hb hbox hg; have hcz2 : w1.cell? ⟨g2, 0, none⟩ = some (.slice A l.length c) := (blk_cell BK2.out 0).trans rfl)
        | ((with_reducible refine gate_dst (N := 3) rfl ?_); refine box_event ?hg3 (N := 3) ?hd3 (cs := #[.int .i64 n]) (t := 3) ?hr3 ?_; (case hd3 => rfl); (case hg3 => rfl); (case hr3 => first | (go_simp; done) | (go_simp; rfl)); intro g3 hg w2 hbox hb; have n0_ := Aside0.mk (below_step HB.out hb); have n1_ := Aside0.mk hbox; have n2_ := Aside0.mk (blk_below BK2.out hb); have n3_ := Aside0.mk (show w.heap.size ≤ g3 by rw [hg]; exact HB.out.size); clear HB BK2 hcz2; have HB := n0_; have BK3 := n1_; have BK2 := n2_; have GE3 := n3_; clear n0_ n1_ n2_ n3_ hb hbox hg; have hcz2 : w2.cell? ⟨g2, 0, none⟩ = some (.slice A l.length c) := (blk_cell BK2.out 0).trans rfl; have hcz3 : w2.cell? ⟨g3, 0, none⟩ = some (.int .i64 n) := (blk_cell BK3.out 0).trans rfl))
      go_loopg [5] k (fun kq v5 w' => ∃ (p : Int), v5 = .int .i64 p ∧ Aside0 (tree_Up.l0 kq l n p = some r) ∧ Aside0 (kq ≤ k) ∧ Aside0 (w'.heap[g2]? = some (.cells #[.slice A l.length c] 25 (0, 0))) ∧ Aside0 (w'.heap[g3]? = some (.cells #[.int .i64 n] 3 (0, 0))) ∧ Aside0 (Below w.heap.size w w'))
      case atStart => exact ⟨wrap64 (n - 1), by first | rfl | simp, H', ⟨Nat.le_refl _⟩, BK2, BK3, HB⟩
      case round =>
        clear hcz2 hcz3 BK2 BK3 HB H'
        obtain ⟨p, rfl, HA, HK, BK2, BK3, HB⟩ := hrel
        have hcz2 : wr.cell? ⟨g2, 0, none⟩ = some (.slice A l.length c) := (blk_cell BK2.out 0).trans rfl
        have hcz3 : wr.cell? ⟨g3, 0, none⟩ = some (.int .i64 n) := (blk_cell BK3.out 0).trans rfl
        cases gk with
        | zero => exact absurd HA.out (by simp [tree_Up.l0])
        | succ k3 =>
          have H := HA.out
          clear HA
          simp only [tree_Up.l0] at H
          by_cases c1 : 0 ≤ p
          · rw [if_pos c1] at H
            by_cases c2 : p < (l.length : Int)
            · rw [if_pos c2] at H
              have c1b : decide (0 ≤ p) = true := decide_eq_true c1
              have c2b : decide (p < (l.length : Int)) = true := decide_eq_true c2
              obtain ⟨ad, e2, hx0, hx1, hx2, hx3⟩ := at_T47 (Kd.C_below HR.out HB.out) p c1 c2
              subst e2
              clear hx0 hx1 hx2
              replace c1 := eq_true c1
              replace c2 := eq_true c2
              by_cases c3 : (rd_T47 l p).f3 ≤ wrap64 (n - p)
              · rw [if_pos c3] at H
                have c3b : decide ((rd_T47 l p).f3 ≤ wrap64 (n - p)) = true := decide_eq_true c3
                clear c3
                have H' := Aside0.mk H
                clear H
                go_wp2
                go_quiet (fail)
                go_wp2
                go_roundg k3
                case measure => have := HK.out; omega
                case rel => exact ⟨wrap64 (p - 1), by first | rfl | simp, H', ⟨by have := HK.out; omega⟩, ⟨by (with_reducible repeat (first | refine blk_drewN ?_ _ | refine blk_drew ?_ | refine blk_alloc ?_ _)); exact BK2.out⟩, ⟨by (with_reducible repeat (first | refine blk_drewN ?_ _ | refine blk_drew ?_ | refine blk_alloc ?_ _)); exact BK3.out⟩, ⟨by repeat (first | exact HB.out | apply below_drew1 | apply pw_below_drewN | apply below_alloc)⟩⟩
              · rw [if_neg c3] at H
                have c3b : decide ((rd_T47 l p).f3 ≤ wrap64 (n - p)) = false := decide_eq_false c3
                clear c3
                obtain ⟨⟨ks, ok⟩, hk, H⟩ := Option.bind_eq_some_iff.1 H
                have HF := Aside0.mk hk
                have HE := Aside0.mk H
                clear hk H
                go_wp2
                go_quiet (fail)
                go_wp2_with (((with_reducible refine gate_dst (N := 6) rfl ?_); refine box_event ?hg6 (N := 6) ?hd6 (cs := #[.bool false]) (t := 4) ?hr6 ?_; (case hd6 => rfl); (case hg6 => rfl); (case hr6 => first | (go_simp; done) | (go_simp; rfl)); intro g6 hg w6 hbox hb; have n0_ := Aside0.mk (below_step (by repeat (first | exact HB.out | apply below_drew1 | apply pw_below_drewN | apply below_alloc)) hb); have n1_ := Aside0.mk hbox; have n2_ := Aside0.mk (blk_below (by (with_reducible repeat (first | refine blk_drewN ?_ _ | refine blk_drew ?_ | refine blk_alloc ?_ _)); exact BK2.out) hb); have n3_ := Aside0.mk (blk_below (by (with_reducible repeat (first | refine blk_drewN ?_ _ | refine blk_drew ?_ | refine blk_alloc ?_ _)); exact BK3.out) hb); have n4_ := Aside0.mk (show w.heap.size ≤ g6 by rw [hg]; exact below_size (by repeat (first | exact HB.out | apply below_drew1 | apply pw_below_drewN | apply below_alloc))); clear HB BK2 BK3 hcz2 hcz3 hx3; have HB := n0_; have BK6 := n1_; have BK2 := n2_; have BK3 := n3_; have GE6 := n4_; clear n0_ n1_ n2_ n3_ n4_ hb hbox hg; have N62 := Aside0.mk (blk_ne BK6.out BK2.out (by decide)); have N63 := Aside0.mk (blk_ne BK6.out BK3.out (by decide)); have L2 := Aside0.mk (blk_far (p := ⟨g6, 0, none⟩) BK2.out N62.out.symm (.bool false)); have L3 := Aside0.mk (blk_far (p := ⟨g6, 0, none⟩) BK3.out N63.out.symm (.bool false)); have L6 := Aside0.mk (blk_put BK6.out 0 (.bool false) rfl); have hcz6 : w6.cell? ⟨g6, 0, none⟩ = some (.bool false) := (blk_cell BK6.out 0).trans rfl; have hf6 := blk_frozen BK6.out 0; have hcz2 : (w6.setCell ⟨g6, 0, none⟩ (.bool false)).cell? ⟨g2, 0, none⟩ = some (.slice (some ad) l.length c) := (blk_cell L2.out 0).trans rfl))
                refine (kids.calls 56 #[.pointer (some ⟨g6, 0, none⟩), .pointer (some ⟨g3, 0, none⟩)] EG'.out (UpJ g6 g3 g2 (.slice (some ad) l.length c) n) k3 (some ad) c l p ks ok w _ HR.out HC.out (below_set HB.out GE6.out) HF.out ?h0 ?hal ?hY).mono ?_
                case h0 => exact fun gb hgb => ⟨fun e => by have := blk_lt L6.out; omega, N62.out.symm, L2.out, L6.out, L3.out⟩
                case hal =>
                  rintro gb pre W W' ⟨h1, h4, h5, h2, h3⟩ hb
                  exact ⟨h1, h4, blk_below h5 hb, blk_below h2 hb, blk_below h3 hb⟩
                case hY =>
                  rintro gb pre x W hp h0 h1 ⟨j1, j4, j5, j2, j3⟩ hge hlt hbW
                  refine (up1.calls x n (metOf n pre) g6 g3 w W j2 j3 hbW GE6.out).mono ?_
                  rintro e w' ⟨hv, b1, b2, b3, b4⟩
                  rw [metOf_snoc] at b1
                  exact ⟨hv, ⟨j1, j4, (b3 g2 j4).trans j5, b1, b2⟩, b3 gb j1, b4⟩
                rintro e w7 ⟨rfl, ⟨gb, hj⟩, hb3⟩
                obtain ⟨j1, j2, j3, j4, j5⟩ := hj
                have BK2 := Aside0.mk j3
                have BK3 := Aside0.mk j5
                have BK6 := Aside0.mk j4
                have HB3 := Aside0.mk hb3
                clear j1 j2 j3 j4 j5 hb3 hcz2 hcz6 hf6 L2 L3 L6
                have hcz2 : w7.cell? ⟨g2, 0, none⟩ = some (.slice (some ad) l.length c) := (blk_cell BK2.out 0).trans rfl
                cases ok with
                | false =>
                  have H' := Aside0.mk (show tree_Up.l0 k3 l n (wrap64 (p - 1)) = some r by simpa using HE.out)
                  go_wp2
                  go_roundg k3
                  case measure => have := HK.out; omega
                  case rel => exact ⟨wrap64 (p - 1), by first | rfl | simp, H', ⟨by have := HK.out; omega⟩, BK2, BK3, HB3⟩
                | true =>
                  by_cases c5 : metOf n ks = true
                  · have he : some p = some r := by simpa [c5] using HE.out
                    obtain rfl := Option.some.inj he
                    have hcz6 : w7.cell? ⟨g6, 0, none⟩ = some (.bool true) := by rw [← c5]; exact (blk_cell BK6.out 0).trans rfl
                    clear c5 he
                    go_wp2
                    go_ret
                    exact ⟨rfl, HB3.out⟩
                  · have H' := Aside0.mk (show tree_Up.l0 k3 l n (wrap64 (p - 1)) = some r by simpa [c5] using HE.out)
                    have c6 : metOf n ks = false := by simpa using c5
                    have hcz6 : w7.cell? ⟨g6, 0, none⟩ = some (.bool false) := by rw [← c6]; exact (blk_cell BK6.out 0).trans rfl
                    clear c5 c6
                    go_wp2
                    go_roundg k3
                    case measure => have := HK.out; omega
                    case rel => exact ⟨wrap64 (p - 1), by first | rfl | simp, H', ⟨by have := HK.out; omega⟩, BK2, BK3, HB3⟩
            · rw [if_neg c2] at H
              exact absurd H (by simp)
          · rw [if_neg c1] at H
            have c1b : decide (0 ≤ p) = false := decide_eq_false c1
            clear c1
            obtain rfl := Option.some.inj H
            go_wp2
            go_ret
            exact ⟨rfl, by repeat (first | exact HB.out | apply below_drew1 | apply pw_below_drewN | apply below_alloc)⟩
end Go.Proofs.Ytodldpdnhcafpaa.F

-- A text of this session's own program (wip/myprint.sh over a changed print tool): functions and their walks
namespace Go.Proofs.Ytodldpdnhcafpaa.F
open Go.RowKit Go.Proofs.YtodldpdnhcafpaaW.PrintWords Go.Proofs.YtodldpdnhcafpaaW.PrintLast Go.Proofs.YtodldpdnhcafpaaW.PrintMore
attribute [local go_sem] max2_int min2_int max_two min_two max_three min_three max_four min_four   -- for this text's walks alone
set_option linter.unusedVariables false
set_option linter.unusedSimpArgs false

/-! ### monikerref4_Kids: function 36 -/
mutual
def monikerref4_Kids.j0 : Nat → Int → Bool → List (S47) → Option (List Int × Bool)
  | 0, _, _, _ => none
  | k + 1, x1, x17, x224000 => if x17 = true then (some (([] : List Int), false)) else (if 0 ≤ x1 then (if x1 < (x224000.length : Int) then (if ((rd_T47 x224000 x1).f3) < 1 then (monikerref4_Kids.j1 k x1 ((rd_T47 x224000 x1).f3) true x224000) else (monikerref4_Kids.j1 k x1 ((rd_T47 x224000 x1).f3) (decide (((rd_T47 x224000 x1).f3) > (wrap64 ((x224000.length : Int) - x1)))) x224000)) else (none)) else (none))
def monikerref4_Kids.j1 : Nat → Int → Int → Bool → List (S47) → Option (List Int × Bool)
  | 0, _, _, _, _ => none
  | k + 1, x1, x6, x34, x224000 => if x34 = true then (some (([] : List Int), false)) else (monikerref4_Kids.l0 k x1 x6 ([] : List Int) (wrap64 (x1 + 1)) x224000)
def monikerref4_Kids.l0 : Nat → Int → Int → List Int → Int → List (S47) → Option (List Int × Bool)
  | 0, _, _, _, _, _ => none
  | k + 1, x1, x6, x7, x8, x224000 => if x8 < (wrap64 (x1 + x6)) then (if x7.length < 17592186044416 then (if 0 ≤ x8 then (if x8 < (x224000.length : Int) then (if ((rd_T47 x224000 x8).f3) < 1 then (some (([] : List Int), false)) else (if ((rd_T47 x224000 x8).f3) > (wrap64 ((wrap64 (x1 + x6)) - x8)) then (some (([] : List Int), false)) else (monikerref4_Kids.l0 k x1 x6 (x7 ++ [x8]) (wrap64 (x8 + ((rd_T47 x224000 x8).f3))) x224000))) else (none)) else (none)) else (none)) else (some (x7, true))
end
def monikerref4_Kids.f (k : Nat) (l0_0 : List (S47)) (a1 : Int) : Option (List Int × Bool) := if a1 < 0 then (monikerref4_Kids.j0 k a1 true l0_0) else (monikerref4_Kids.j0 k a1 (decide (a1 ≥ (l0_0.length : Int))) l0_0)
set_option maxHeartbeats 8000000 in
set_option maxRecDepth 100000 in
theorem monikerref4_Kids.calls (k : Nat) (A0_0 : Option Addr) (c0_0 : Nat) (l0_0 : List (S47)) (a1 : Int) (r1 : List Int) (r2 : Bool) (w : World) (hr0_0 : Kd.C k47 w A0_0 l0_0.length l0_0) (hc0_0 : l0_0.length ≤ c0_0) (h : monikerref4_Kids.f k l0_0 a1 = some (r1, r2)) :
    Calls Try.prog 36 #[.agg #[.slice A0_0 l0_0.length c0_0], .int .i64 a1] w fun e w' => ∃ v0_ : Value, e = .returned (.tuple #[v0_, .bool r2]) ∧ Kd.R (Kd.int .i64) 3 w' w.heap.size (fun _ => True) v0_ r1 ∧ Below w.heap.size w w' := by
  have hu25 := Try.underlying25
  have HR0_0 := Aside0.mk hr0_0
  have HC0_0 := Aside0.mk hc0_0
  clear hr0_0 hc0_0
  have HB := Aside0.mk (Below.refl w.heap.size w)
  have H : (if a1 < 0 then (monikerref4_Kids.j0 k a1 true l0_0) else (monikerref4_Kids.j0 k a1 (decide (a1 ≥ (l0_0.length : Int))) l0_0)) = some (r1, r2) := h
  clear h
  have HC3 := Aside0.mk H
  clear H
  go_enter Try.func36, Try.ntmps36
  go_upto_region 1 with (first | ((with_reducible refine gate_dst (N := 2) rfl ?_); (try (refine gate_guard (by rfl) ?_; dsimp only)); refine box_event ?hg (N := 2) ?hd (cs := #[.slice A0_0 l0_0.length c0_0]) (t := 25) ?hr ?_; (case hd => rfl); (case hg => rfl); (case hr => first | (go_simp; done) | (go_simp; rfl)); intro gb223 hg w4 hbox hb; have n0_ := Aside0.mk (below_step (by repeat (first | (with_reducible first | exact HB.out | apply below_alloc | apply pw_below_drewN | apply below_drew1) | exact HB.out)) hb); have n1_ := Aside0.mk (hbox); have n2_ := Aside0.mk ((by rw [hg]; exact (below_size (by repeat (first | (with_reducible first | exact HB.out | apply below_alloc | apply pw_below_drewN | apply below_drew1) | exact HB.out))) : w.heap.size ≤ gb223)); have n3_ := Aside0.mk ((by rw [hg]; exact (below_size (by repeat (first | (with_reducible first | exact HB.out | apply below_alloc | apply pw_below_drewN | apply below_drew1) | exact HB.out))) : w.heap.size ≤ gb223)); clear HB; have HB := n0_; have BK223 := n1_; have GW223 := n2_; have GE223 := n3_; clear n0_ n1_ n2_ n3_; clear hb hbox hg))
  (try simp only [Act.put, List.setIfInBounds_toArray, List.set_cons_zero, List.set_cons_succ])
  go_cut [17] (fun v17 wc => ∃ (kq : Nat) (x17_2 : Bool), v17 = .bool x17_2 ∧ Aside0 (monikerref4_Kids.j0 kq a1 x17_2 l0_0 = some (r1, r2)) ∧ Aside0 (kq ≤ k) ∧ Aside0 (wc.heap[gb223]? = some (.cells #[(.slice A0_0 l0_0.length c0_0)] 25 (0, 0))) ∧ Aside0 (Below w.heap.size w wc))
  case first =>
    have H := HC3.out
    clear HC3
    by_cases c5 : a1 < 0
    · rw [if_pos c5] at H
      have c5b0 : decide (a1 < 0) = true := decide_eq_true c5
      clear c5
      (first | rw [c5b0] | (simp only [i64_w, i32_w]; rw [c5b0]) | skip)
      have H' := Aside0.mk H
      clear H
      go_wp2
      go_meet
      case rel => exact ⟨_, (true), (by first | rfl | (simp; done) | (simp [*]; done)), H', ⟨by first | omega | exact Nat.le_refl _⟩, ⟨by (with_reducible repeat (first | refine blk_drewN ?_ _ | refine blk_drew ?_ | refine blk_alloc ?_ _)); exact BK223.out⟩, ⟨by repeat (first | (with_reducible first | exact HB.out | apply below_alloc | apply pw_below_drewN | apply below_drew1 | refine below_set ?_ GE223.out) | exact HB.out)⟩⟩
    · rw [if_neg c5] at H
      have c5b0 : decide (a1 < 0) = false := decide_eq_false c5
      clear c5
      (first | rw [c5b0] | (simp only [i64_w, i32_w]; rw [c5b0]) | skip)
      have H' := Aside0.mk H
      clear H
      have hcz6_0 : w4.cell? ⟨gb223, 0, none⟩ = some (.slice A0_0 l0_0.length c0_0) := (blk_cell BK223.out 0).trans rfl
      have hfz6_0 := blk_frozen BK223.out 0
      go_wp2
      go_meet
      case rel => exact ⟨_, (decide (a1 ≥ (l0_0.length : Int))), (by first | rfl | (simp; done) | (simp [*]; done)), H', ⟨by first | omega | exact Nat.le_refl _⟩, ⟨by (with_reducible repeat (first | refine blk_drewN ?_ _ | refine blk_drew ?_ | refine blk_alloc ?_ _)); exact BK223.out⟩, ⟨by repeat (first | (with_reducible first | exact HB.out | apply below_alloc | apply pw_below_drewN | apply below_drew1 | refine below_set ?_ GE223.out) | exact HB.out)⟩⟩
  case rest =>
    clear HC3
    try clear p2
    try clear c3
    try clear c5
    try clear c5b0
    try clear hcz6_0
    try clear hfz6_0
    obtain ⟨kq, x17_2, rfl, HA, HJ2, BK223, HB⟩ := hcut
    cases kq with
    | zero => exact absurd HA.out (by simp [monikerref4_Kids.j0])
    | succ kj2 =>
      have H := HA.out
      clear HA
      simp only [monikerref4_Kids.j0] at H
      by_cases c7 : x17_2 = true
      · subst c7
        have H1 : (some (([] : List Int), false)) = some (r1, r2) := by rw [if_pos rfl] at H; exact H
        clear H
        have H := H1
        clear H1
        simp only [Option.some.injEq, Prod.mk.injEq] at H
        obtain ⟨rfl, rfl⟩ := H
        go_wp2
        go_ret2
        exact ⟨_, by first | rfl | (simp [errW_none, errW_some] <;> rfl) | (simp [*, errW_none, errW_some] <;> rfl), by first | exact Kd.R_nil _ _ _ _ _ | exact Kd.N_nil _ _ _ _ _ | exact Kd.V_nil _ _ _ _ _ | exact Kd.Q_nil _ _ _ _ _ | exact Kd.S_nil _ _ _ _ _, by repeat (first | (with_reducible first | exact HB.out | apply below_alloc | apply pw_below_drewN | apply below_drew1 | refine below_set ?_ GE223.out) | exact HB.out)⟩
      · replace c7 := Bool.eq_false_iff.mpr c7
        subst c7
        have H1 : (if 0 ≤ a1 then (if a1 < (l0_0.length : Int) then (if ((rd_T47 l0_0 a1).f3) < 1 then (monikerref4_Kids.j1 kj2 a1 ((rd_T47 l0_0 a1).f3) true l0_0) else (monikerref4_Kids.j1 kj2 a1 ((rd_T47 l0_0 a1).f3) (decide (((rd_T47 l0_0 a1).f3) > (wrap64 ((l0_0.length : Int) - a1)))) l0_0)) else (none)) else (none)) = some (r1, r2) := by rw [if_neg (show ¬ (false = true) by decide)] at H; exact H
        clear H
        have H := H1
        clear H1
        by_cases c8 : 0 ≤ a1
        · rw [if_pos c8] at H
          have c8b0 : decide (0 ≤ a1) = true := decide_eq_true c8
          clear c8
          by_cases c9 : a1 < (l0_0.length : Int)
          · rw [if_pos c9] at H
            have c9b0 : decide (a1 < (l0_0.length : Int)) = true := decide_eq_true c9
            clear c9
            have HC10 := Aside0.mk H
            clear H
            have hcz11_0 : wc.cell? ⟨gb223, 0, none⟩ = some (.slice A0_0 l0_0.length c0_0) := (blk_cell BK223.out 0).trans rfl
            have hfz11_0 := blk_frozen BK223.out 0
            have p224 : 0 ≤ (a1 : Int) := of_decide_eq_true (by first | (with_reducible assumption) | assumption)
            have q224 : a1 < (l0_0.length : Int) := of_decide_eq_true (by first | (with_reducible assumption) | assumption)
            obtain ⟨ad224, e224, hx224_0, hx224_1, hx224_2, hx224_3⟩ := at_T47 HR0_0.out a1 p224 q224
            cases e224
            replace hx224_0 := (HB.out.cell (World.block_lt_of_cell? w _ hx224_0)).trans hx224_0
            replace hx224_1 := (HB.out.cell (World.block_lt_of_cell? w _ hx224_1)).trans hx224_1
            replace hx224_2 := (HB.out.cell (World.block_lt_of_cell? w _ hx224_2)).trans hx224_2
            replace hx224_3 := (HB.out.cell (World.block_lt_of_cell? w _ hx224_3)).trans hx224_3
            replace p224 := eq_true p224
            replace q224 := eq_true q224
            go_upto_region 4 with (fail)
            go_cut [34] (fun v34 wc => ∃ (kq : Nat) (x34_9 : Bool), v34 = .bool x34_9 ∧ Aside0 (monikerref4_Kids.j1 kq a1 ((rd_T47 l0_0 a1).f3) x34_9 l0_0 = some (r1, r2)) ∧ Aside0 (kq ≤ kj2) ∧ Aside0 (wc.heap[gb223]? = some (.cells #[(.slice (some ad224) l0_0.length c0_0)] 25 (0, 0))) ∧ Aside0 (Below w.heap.size w wc))
            case first =>
              have H := HC10.out
              clear HC10
              by_cases c12 : ((rd_T47 l0_0 a1).f3) < 1
              · rw [if_pos c12] at H
                have c12b0 : decide (((rd_T47 l0_0 a1).f3) < 1) = true := decide_eq_true c12
                clear c12
                (first | rw [c12b0] | (simp only [i64_w, i32_w]; rw [c12b0]) | skip)
                have H' := Aside0.mk H
                clear H
                go_wp2
                go_meet
                case rel => exact ⟨_, (true), (by first | rfl | (simp; done) | (simp [*]; done)), H', ⟨by have := HJ2.out; first | omega | exact Nat.le_refl _⟩, ⟨by (with_reducible repeat (first | refine blk_drewN ?_ _ | refine blk_drew ?_ | refine blk_alloc ?_ _)); exact BK223.out⟩, ⟨by repeat (first | (with_reducible first | exact HB.out | apply below_alloc | apply pw_below_drewN | apply below_drew1 | refine below_set ?_ GE223.out) | exact HB.out)⟩⟩
              · rw [if_neg c12] at H
                have c12b0 : decide (((rd_T47 l0_0 a1).f3) < 1) = false := decide_eq_false c12
                clear c12
                (first | rw [c12b0] | (simp only [i64_w, i32_w]; rw [c12b0]) | skip)
                have H' := Aside0.mk H
                clear H
                have hcz13_0 : wc.cell? ⟨gb223, 0, none⟩ = some (.slice (some ad224) l0_0.length c0_0) := (blk_cell BK223.out 0).trans rfl
                have hfz13_0 := blk_frozen BK223.out 0
                go_wp2
                go_meet
                case rel => exact ⟨_, (decide (((rd_T47 l0_0 a1).f3) > (wrap64 ((l0_0.length : Int) - a1)))), (by first | rfl | (simp; done) | (simp [*]; done)), H', ⟨by have := HJ2.out; first | omega | exact Nat.le_refl _⟩, ⟨by (with_reducible repeat (first | refine blk_drewN ?_ _ | refine blk_drew ?_ | refine blk_alloc ?_ _)); exact BK223.out⟩, ⟨by repeat (first | (with_reducible first | exact HB.out | apply below_alloc | apply pw_below_drewN | apply below_drew1 | refine below_set ?_ GE223.out) | exact HB.out)⟩⟩
            case rest =>
              clear HC10
              try clear c1
              try clear p2
              try clear q2
              try clear hx2
              try clear c3
              try clear c5
              try clear c5b0
              try clear p6
              try clear c7
              try clear c8
              try clear c8b0
              try clear c9
              try clear c9b0
              try clear c12
              try clear c12b0
              try clear hcz11_0
              try clear hcz13_0
              try clear hcz6_0
              try clear hfz11_0
              try clear hfz13_0
              try clear hfz6_0
              try clear hx224_0
              try clear hx224_1
              try clear hx224_2
              try clear hx224_3
              try clear p2
              try clear p224
              try clear q224
              obtain ⟨kq, x34_9, rfl, HA, HJ9, BK223, HB⟩ := hcut
              cases kq with
              | zero => exact absurd HA.out (by simp [monikerref4_Kids.j1])
              | succ kj9 =>
                have H := HA.out
                clear HA
                simp only [monikerref4_Kids.j1] at H
                by_cases c14 : x34_9 = true
                · subst c14
                  have H1 : (some (([] : List Int), false)) = some (r1, r2) := by rw [if_pos rfl] at H; exact H
                  clear H
                  have H := H1
                  clear H1
                  simp only [Option.some.injEq, Prod.mk.injEq] at H
                  obtain ⟨rfl, rfl⟩ := H
                  go_wp2
                  go_ret2
                  exact ⟨_, by first | rfl | (simp [errW_none, errW_some] <;> rfl) | (simp [*, errW_none, errW_some] <;> rfl), by first | exact Kd.R_nil _ _ _ _ _ | exact Kd.N_nil _ _ _ _ _ | exact Kd.V_nil _ _ _ _ _ | exact Kd.Q_nil _ _ _ _ _ | exact Kd.S_nil _ _ _ _ _, by repeat (first | (with_reducible first | exact HB.out | apply below_alloc | apply pw_below_drewN | apply below_drew1 | refine below_set ?_ GE223.out) | exact HB.out)⟩
                · replace c14 := Bool.eq_false_iff.mpr c14
                  subst c14
                  have H1 : (monikerref4_Kids.l0 kj9 a1 ((rd_T47 l0_0 a1).f3) ([] : List Int) (wrap64 (a1 + 1)) l0_0) = some (r1, r2) := by rw [if_neg (show ¬ (false = true) by decide)] at H; exact H
                  clear H
                  have H := H1
                  clear H1
                  have H' := Aside0.mk H
                  clear H
                  go_wp2
                  go_loopg [7, 8] kj9 (fun kq v7 v8 w' => ∃ (x7_3 : List Int) (x8_3 : Int), v8 = .int .i64 x8_3 ∧ Aside0 (monikerref4_Kids.l0 kq a1 ((rd_T47 l0_0 a1).f3) x7_3 x8_3 l0_0 = some (r1, r2)) ∧ Aside0 (kq ≤ kj9) ∧ Aside0 (Kd.R (Kd.int .i64) 3 w' w.heap.size (fun _ => True) v7 x7_3) ∧ Aside0 (w'.heap[gb223]? = some (.cells #[(.slice (some ad224) l0_0.length c0_0)] 25 (0, 0))) ∧ Aside0 (Below w.heap.size w w'))
                  case atStart => exact ⟨(([] : List Int)), (wrap64 (a1 + 1)), (by first | rfl | (simp; done) | (simp [*]; done)), H', ⟨Nat.le_refl _⟩, ⟨by first | exact Kd.R_nil _ _ _ _ _ | exact Kd.N_nil _ _ _ _ _ | exact Kd.V_nil _ _ _ _ _ | exact Kd.Q_nil _ _ _ _ _ | exact Kd.S_nil _ _ _ _ _⟩, ⟨by (with_reducible repeat (first | refine blk_drewN ?_ _ | refine blk_drew ?_ | refine blk_alloc ?_ _)); exact BK223.out⟩, ⟨by repeat (first | (with_reducible first | exact HB.out | apply below_alloc | apply pw_below_drewN | apply below_drew1 | refine below_set ?_ GE223.out) | exact HB.out)⟩⟩
                  case round =>
                    clear H'
                    try clear c1
                    try clear p2
                    try clear q2
                    try clear hx2
                    try clear c3
                    try clear c5
                    try clear c5b0
                    try clear p6
                    try clear c7
                    try clear c8
                    try clear c8b0
                    try clear c9
                    try clear c9b0
                    try clear c12
                    try clear c12b0
                    try clear c14
                    try clear hcz11_0
                    try clear hcz13_0
                    try clear hcz6_0
                    try clear hfz11_0
                    try clear hfz13_0
                    try clear hfz6_0
                    try clear hx224_0
                    try clear hx224_1
                    try clear hx224_2
                    try clear hx224_3
                    try clear p2
                    try clear p224
                    try clear p6
                    try clear q2
                    try clear q224
                    obtain ⟨x7_3, x8_3, rfl, HA, HK3, HO_7, BK223, HB⟩ := hrel
                    cases gk with
                    | zero => exact absurd HA.out (by simp [monikerref4_Kids.l0])
                    | succ k3 =>
                      have H := HA.out
                      clear HA
                      simp only [monikerref4_Kids.l0] at H
                      by_cases c15 : x8_3 < (wrap64 (a1 + ((rd_T47 l0_0 a1).f3)))
                      · rw [if_pos c15] at H
                        have c15b0 : decide (x8_3 < (wrap64 (a1 + ((rd_T47 l0_0 a1).f3)))) = true := decide_eq_true c15
                        clear c15
                        by_cases c16 : x7_3.length < 17592186044416
                        · rw [if_pos c16] at H
                          have LMc16 := Aside0.mk c16
                          clear c16
                          obtain ⟨y225, hy225⟩ : ∃ y_ : List Int, y_ = (x7_3 ++ [x8_3]) := ⟨_, rfl⟩
                          replace H : (if 0 ≤ x8_3 then (if x8_3 < (l0_0.length : Int) then (if ((rd_T47 l0_0 x8_3).f3) < 1 then (some (([] : List Int), false)) else (if ((rd_T47 l0_0 x8_3).f3) > (wrap64 ((wrap64 (a1 + ((rd_T47 l0_0 a1).f3))) - x8_3)) then (some (([] : List Int), false)) else (monikerref4_Kids.l0 k3 a1 ((rd_T47 l0_0 a1).f3) y225 (wrap64 (x8_3 + ((rd_T47 l0_0 x8_3).f3))) l0_0))) else (none)) else (none)) = some (r1, r2) := by first | (rw [hy225]; with_reducible exact H) | (have H2_ := (Option.bind_some _ _).symm.trans H; rw [hy225]; with_reducible exact H2_) | (have H2_ := (Option.bind_some _ _).symm.trans H; with_reducible exact H2_) | with_reducible exact H | (rw [hy225]; exact H) | exact H
                          have Ny225 := Aside0.mk hy225
                          clear hy225
                          by_cases c17 : 0 ≤ x8_3
                          · rw [if_pos c17] at H
                            have c17b0 : decide (0 ≤ x8_3) = true := decide_eq_true c17
                            clear c17
                            by_cases c18 : x8_3 < (l0_0.length : Int)
                            · rw [if_pos c18] at H
                              have c18b0 : decide (x8_3 < (l0_0.length : Int)) = true := decide_eq_true c18
                              clear c18
                              by_cases c19 : ((rd_T47 l0_0 x8_3).f3) < 1
                              · rw [if_pos c19] at H
                                have c19b0 : decide (((rd_T47 l0_0 x8_3).f3) < 1) = true := decide_eq_true c19
                                clear c19
                                simp only [Option.some.injEq, Prod.mk.injEq] at H
                                obtain ⟨rfl, rfl⟩ := H
                                go_wp2_with (first | ((with_reducible refine gate_builtin (b := .append) (xs := #[.tmp 42, .tmp 44]) rfl ?_); (try (refine gate_guard (by rfl) ?_; dsimp only)); at_builtin; refine Kd.R_append (Kd.int .i64) (w0 := w) w.heap.size rfl (.tmp 42) (.tmp 44) 33 3 (.int .i64 0) 8 rfl Try.underlying33 info3 rfl (by decide) (by omega) u7 x7_3 x8_3 [.int .i64 x8_3] (fun _ => True) (fun _ => False) rfl rfl ?aP (fun _ hk => hk.elim) ?aF ?aO ?aB ?aS ?aL ?_; (case aP => exact rfl); (case aB => exact (by repeat (first | (with_reducible first | exact HB.out | apply below_alloc | apply pw_below_drewN | apply below_drew1 | refine below_set ?_ GE223.out) | exact HB.out))); (case aF => exact (fun _ _ => trivial)); (case aO => exact (by (with_reducible repeat (first | apply Kd.R_alloc | apply Kd.R_drewN | apply Kd.R_drew)); exact HO_7.out)); (case aS => exact (below_size (by repeat (first | (with_reducible first | exact HB.out | apply below_alloc | apply pw_below_drewN | apply below_drew1 | refine below_set ?_ GE223.out) | exact HB.out)))); (case aL => have := LMc16.out; omega); intro v226 w20 ho hb hg hat; rw [← Ny225.out] at ho; have n0_ := Aside0.mk (blk_grown (g := gb223) (o := .cells #[.slice (some ad224) l0_0.length c0_0] 25 (0, 0)) (by (with_reducible repeat (first | refine blk_drewN ?_ _ | refine blk_drew ?_ | refine blk_alloc ?_ _)); exact BK223.out) hg (Kd.R_ne HO_7.out BK223.out (by decide))); have n1_ := Aside0.mk (hb); have n2_ := Aside0.mk (ho); clear BK223; clear HB; clear HO_7; have BK223 := n0_; have HB := n1_; have HO227 := n2_; clear n0_ n1_ n2_; clear ho hb hg hat; have hcz21_0 : w20.cell? ⟨gb223, 0, none⟩ = some (.slice (some ad224) l0_0.length c0_0) := (blk_cell BK223.out 0).trans rfl; have hfz21_0 := blk_frozen BK223.out 0; have p228 : 0 ≤ (x8_3 : Int) := of_decide_eq_true (by first | (with_reducible assumption) | assumption); have q228 : x8_3 < (l0_0.length : Int) := of_decide_eq_true (by first | (with_reducible assumption) | assumption); obtain ⟨ad228, e228, hx228_0, hx228_1, hx228_2, hx228_3⟩ := at_T47 HR0_0.out x8_3 p228 q228; obtain rfl : ad224 = ad228 := (by injection e228); replace hx228_0 := (HB.out.cell (World.block_lt_of_cell? w _ hx228_0)).trans hx228_0; replace hx228_1 := (HB.out.cell (World.block_lt_of_cell? w _ hx228_1)).trans hx228_1; replace hx228_2 := (HB.out.cell (World.block_lt_of_cell? w _ hx228_2)).trans hx228_2; replace hx228_3 := (HB.out.cell (World.block_lt_of_cell? w _ hx228_3)).trans hx228_3; replace p228 := eq_true p228; replace q228 := eq_true q228))
                                go_ret2
                                exact ⟨_, by first | rfl | (simp [errW_none, errW_some] <;> rfl) | (simp [*, errW_none, errW_some] <;> rfl), by first | exact Kd.R_nil _ _ _ _ _ | exact Kd.N_nil _ _ _ _ _ | exact Kd.V_nil _ _ _ _ _ | exact Kd.Q_nil _ _ _ _ _ | exact Kd.S_nil _ _ _ _ _, by repeat (first | (with_reducible first | exact HB.out | apply below_alloc | apply pw_below_drewN | apply below_drew1 | refine below_set ?_ GE223.out) | exact HB.out)⟩
                              · rw [if_neg c19] at H
                                have c19b0 : decide (((rd_T47 l0_0 x8_3).f3) < 1) = false := decide_eq_false c19
                                clear c19
                                by_cases c22 : ((rd_T47 l0_0 x8_3).f3) > (wrap64 ((wrap64 (a1 + ((rd_T47 l0_0 a1).f3))) - x8_3))
                                · rw [if_pos c22] at H
                                  have c22b0 : decide ((wrap64 ((wrap64 (a1 + ((rd_T47 l0_0 a1).f3))) - x8_3)) < ((rd_T47 l0_0 x8_3).f3)) = true := decide_eq_true c22
                                  clear c22
                                  simp only [Option.some.injEq, Prod.mk.injEq] at H
                                  obtain ⟨rfl, rfl⟩ := H
                                  go_wp2_with (first | ((with_reducible refine gate_builtin (b := .append) (xs := #[.tmp 42, .tmp 44]) rfl ?_); (try (refine gate_guard (by rfl) ?_; dsimp only)); at_builtin; refine Kd.R_append (Kd.int .i64) (w0 := w) w.heap.size rfl (.tmp 42) (.tmp 44) 33 3 (.int .i64 0) 8 rfl Try.underlying33 info3 rfl (by decide) (by omega) u7 x7_3 x8_3 [.int .i64 x8_3] (fun _ => True) (fun _ => False) rfl rfl ?aP (fun _ hk => hk.elim) ?aF ?aO ?aB ?aS ?aL ?_; (case aP => exact rfl); (case aB => exact (by repeat (first | (with_reducible first | exact HB.out | apply below_alloc | apply pw_below_drewN | apply below_drew1 | refine below_set ?_ GE223.out) | exact HB.out))); (case aF => exact (fun _ _ => trivial)); (case aO => exact (by (with_reducible repeat (first | apply Kd.R_alloc | apply Kd.R_drewN | apply Kd.R_drew)); exact HO_7.out)); (case aS => exact (below_size (by repeat (first | (with_reducible first | exact HB.out | apply below_alloc | apply pw_below_drewN | apply below_drew1 | refine below_set ?_ GE223.out) | exact HB.out)))); (case aL => have := LMc16.out; omega); intro v226 w23 ho hb hg hat; rw [← Ny225.out] at ho; have n0_ := Aside0.mk (blk_grown (g := gb223) (o := .cells #[.slice (some ad224) l0_0.length c0_0] 25 (0, 0)) (by (with_reducible repeat (first | refine blk_drewN ?_ _ | refine blk_drew ?_ | refine blk_alloc ?_ _)); exact BK223.out) hg (Kd.R_ne HO_7.out BK223.out (by decide))); have n1_ := Aside0.mk (hb); have n2_ := Aside0.mk (ho); clear BK223; clear HB; clear HO_7; have BK223 := n0_; have HB := n1_; have HO227 := n2_; clear n0_ n1_ n2_; clear ho hb hg hat; have hcz24_0 : w23.cell? ⟨gb223, 0, none⟩ = some (.slice (some ad224) l0_0.length c0_0) := (blk_cell BK223.out 0).trans rfl; have hfz24_0 := blk_frozen BK223.out 0; have p228 : 0 ≤ (x8_3 : Int) := of_decide_eq_true (by first | (with_reducible assumption) | assumption); have q228 : x8_3 < (l0_0.length : Int) := of_decide_eq_true (by first | (with_reducible assumption) | assumption); obtain ⟨ad228, e228, hx228_0, hx228_1, hx228_2, hx228_3⟩ := at_T47 HR0_0.out x8_3 p228 q228; obtain rfl : ad224 = ad228 := (by injection e228); replace hx228_0 := (HB.out.cell (World.block_lt_of_cell? w _ hx228_0)).trans hx228_0; replace hx228_1 := (HB.out.cell (World.block_lt_of_cell? w _ hx228_1)).trans hx228_1; replace hx228_2 := (HB.out.cell (World.block_lt_of_cell? w _ hx228_2)).trans hx228_2; replace hx228_3 := (HB.out.cell (World.block_lt_of_cell? w _ hx228_3)).trans hx228_3; replace p228 := eq_true p228; replace q228 := eq_true q228; have p229 : 0 ≤ (x8_3 : Int) := of_decide_eq_true (by first | (with_reducible assumption) | assumption); have q229 : x8_3 < (l0_0.length : Int) := of_decide_eq_true (by first | (with_reducible assumption) | assumption); obtain ⟨ad229, e229, hx229_0, hx229_1, hx229_2, hx229_3⟩ := at_T47 HR0_0.out x8_3 p229 q229; obtain rfl : ad224 = ad229 := (by injection e229); replace hx229_0 := (HB.out.cell (World.block_lt_of_cell? w _ hx229_0)).trans hx229_0; replace hx229_1 := (HB.out.cell (World.block_lt_of_cell? w _ hx229_1)).trans hx229_1; replace hx229_2 := (HB.out.cell (World.block_lt_of_cell? w _ hx229_2)).trans hx229_2; replace hx229_3 := (HB.out.cell (World.block_lt_of_cell? w _ hx229_3)).trans hx229_3; replace p229 := eq_true p229; replace q229 := eq_true q229))
                                  go_ret2
                                  exact ⟨_, by first | rfl | (simp [errW_none, errW_some] <;> rfl) | (simp [*, errW_none, errW_some] <;> rfl), by first | exact Kd.R_nil _ _ _ _ _ | exact Kd.N_nil _ _ _ _ _ | exact Kd.V_nil _ _ _ _ _ | exact Kd.Q_nil _ _ _ _ _ | exact Kd.S_nil _ _ _ _ _, by repeat (first | (with_reducible first | exact HB.out | apply below_alloc | apply pw_below_drewN | apply below_drew1 | refine below_set ?_ GE223.out) | exact HB.out)⟩
                                · rw [if_neg c22] at H
                                  have c22b0 : decide ((wrap64 ((wrap64 (a1 + ((rd_T47 l0_0 a1).f3))) - x8_3)) < ((rd_T47 l0_0 x8_3).f3)) = false := decide_eq_false c22
                                  clear c22
                                  have H' := Aside0.mk H
                                  clear H
                                  go_wp2_with (first | ((with_reducible refine gate_builtin (b := .append) (xs := #[.tmp 42, .tmp 44]) rfl ?_); (try (refine gate_guard (by rfl) ?_; dsimp only)); at_builtin; refine Kd.R_append (Kd.int .i64) (w0 := w) w.heap.size rfl (.tmp 42) (.tmp 44) 33 3 (.int .i64 0) 8 rfl Try.underlying33 info3 rfl (by decide) (by omega) u7 x7_3 x8_3 [.int .i64 x8_3] (fun _ => True) (fun _ => False) rfl rfl ?aP (fun _ hk => hk.elim) ?aF ?aO ?aB ?aS ?aL ?_; (case aP => exact rfl); (case aB => exact (by repeat (first | (with_reducible first | exact HB.out | apply below_alloc | apply pw_below_drewN | apply below_drew1 | refine below_set ?_ GE223.out) | exact HB.out))); (case aF => exact (fun _ _ => trivial)); (case aO => exact (by (with_reducible repeat (first | apply Kd.R_alloc | apply Kd.R_drewN | apply Kd.R_drew)); exact HO_7.out)); (case aS => exact (below_size (by repeat (first | (with_reducible first | exact HB.out | apply below_alloc | apply pw_below_drewN | apply below_drew1 | refine below_set ?_ GE223.out) | exact HB.out)))); (case aL => have := LMc16.out; omega); intro v226 w25 ho hb hg hat; rw [← Ny225.out] at ho; have n0_ := Aside0.mk (blk_grown (g := gb223) (o := .cells #[.slice (some ad224) l0_0.length c0_0] 25 (0, 0)) (by (with_reducible repeat (first | refine blk_drewN ?_ _ | refine blk_drew ?_ | refine blk_alloc ?_ _)); exact BK223.out) hg (Kd.R_ne HO_7.out BK223.out (by decide))); have n1_ := Aside0.mk (hb); have n2_ := Aside0.mk (ho); clear BK223; clear HB; clear HO_7; have BK223 := n0_; have HB := n1_; have HO227 := n2_; clear n0_ n1_ n2_; clear ho hb hg hat; have hcz26_0 : w25.cell? ⟨gb223, 0, none⟩ = some (.slice (some ad224) l0_0.length c0_0) := (blk_cell BK223.out 0).trans rfl; have hfz26_0 := blk_frozen BK223.out 0; have p228 : 0 ≤ (x8_3 : Int) := of_decide_eq_true (by first | (with_reducible assumption) | assumption); have q228 : x8_3 < (l0_0.length : Int) := of_decide_eq_true (by first | (with_reducible assumption) | assumption); obtain ⟨ad228, e228, hx228_0, hx228_1, hx228_2, hx228_3⟩ := at_T47 HR0_0.out x8_3 p228 q228; obtain rfl : ad224 = ad228 := (by injection e228); replace hx228_0 := (HB.out.cell (World.block_lt_of_cell? w _ hx228_0)).trans hx228_0; replace hx228_1 := (HB.out.cell (World.block_lt_of_cell? w _ hx228_1)).trans hx228_1; replace hx228_2 := (HB.out.cell (World.block_lt_of_cell? w _ hx228_2)).trans hx228_2; replace hx228_3 := (HB.out.cell (World.block_lt_of_cell? w _ hx228_3)).trans hx228_3; replace p228 := eq_true p228; replace q228 := eq_true q228; have p229 : 0 ≤ (x8_3 : Int) := of_decide_eq_true (by first | (with_reducible assumption) | assumption); have q229 : x8_3 < (l0_0.length : Int) := of_decide_eq_true (by first | (with_reducible assumption) | assumption); obtain ⟨ad229, e229, hx229_0, hx229_1, hx229_2, hx229_3⟩ := at_T47 HR0_0.out x8_3 p229 q229; obtain rfl : ad224 = ad229 := (by injection e229); replace hx229_0 := (HB.out.cell (World.block_lt_of_cell? w _ hx229_0)).trans hx229_0; replace hx229_1 := (HB.out.cell (World.block_lt_of_cell? w _ hx229_1)).trans hx229_1; replace hx229_2 := (HB.out.cell (World.block_lt_of_cell? w _ hx229_2)).trans hx229_2; replace hx229_3 := (HB.out.cell (World.block_lt_of_cell? w _ hx229_3)).trans hx229_3; replace p229 := eq_true p229; replace q229 := eq_true q229; have p230 : 0 ≤ (x8_3 : Int) := of_decide_eq_true (by first | (with_reducible assumption) | assumption); have q230 : x8_3 < (l0_0.length : Int) := of_decide_eq_true (by first | (with_reducible assumption) | assumption); obtain ⟨ad230, e230, hx230_0, hx230_1, hx230_2, hx230_3⟩ := at_T47 HR0_0.out x8_3 p230 q230; obtain rfl : ad224 = ad230 := (by injection e230); replace hx230_0 := (HB.out.cell (World.block_lt_of_cell? w _ hx230_0)).trans hx230_0; replace hx230_1 := (HB.out.cell (World.block_lt_of_cell? w _ hx230_1)).trans hx230_1; replace hx230_2 := (HB.out.cell (World.block_lt_of_cell? w _ hx230_2)).trans hx230_2; replace hx230_3 := (HB.out.cell (World.block_lt_of_cell? w _ hx230_3)).trans hx230_3; replace p230 := eq_true p230; replace q230 := eq_true q230))
                                  go_roundg k3
                                  case measure => have := HJ2.out; have := HJ9.out; have := HK3.out; omega
                                  case rel => exact ⟨(y225), (wrap64 (x8_3 + ((rd_T47 l0_0 x8_3).f3))), (by first | rfl | (simp; done) | (simp [*]; done)), H', ⟨by have := HJ2.out; have := HJ9.out; have := HK3.out; omega⟩, ⟨by (with_reducible repeat (first | apply Kd.R_alloc | apply Kd.R_drewN | apply Kd.R_drew)); exact HO227.out⟩, ⟨by (with_reducible repeat (first | refine blk_drewN ?_ _ | refine blk_drew ?_ | refine blk_alloc ?_ _)); exact BK223.out⟩, ⟨by repeat (first | (with_reducible first | exact HB.out | apply below_alloc | apply pw_below_drewN | apply below_drew1 | refine below_set ?_ GE223.out) | exact HB.out)⟩⟩
                            · rw [if_neg c18] at H
                              exact absurd H (by simp)
                          · rw [if_neg c17] at H
                            exact absurd H (by simp)
                        · rw [if_neg c16] at H
                          exact absurd H (by simp)
                      · rw [if_neg c15] at H
                        have c15b0 : decide (x8_3 < (wrap64 (a1 + ((rd_T47 l0_0 a1).f3)))) = false := decide_eq_false c15
                        clear c15
                        simp only [Option.some.injEq, Prod.mk.injEq] at H
                        obtain ⟨rfl, rfl⟩ := H
                        go_wp2
                        go_ret2
                        exact ⟨_, by first | rfl | (simp [errW_none, errW_some] <;> rfl) | (simp [*, errW_none, errW_some] <;> rfl), by (with_reducible repeat (first | apply Kd.R_alloc | apply Kd.R_drewN | apply Kd.R_drew)); exact HO_7.out, by repeat (first | (with_reducible first | exact HB.out | apply below_alloc | apply pw_below_drewN | apply below_drew1 | refine below_set ?_ GE223.out) | exact HB.out)⟩
          · rw [if_neg c9] at H
            exact absurd H (by simp)
        · rw [if_neg c8] at H
          exact absurd H (by simp)

end Go.Proofs.Ytodldpdnhcafpaa.F

namespace Go.Proofs.Ytodldpdnhcafpaa.Q
open Go.RowKit Go.Proofs.YtodldpdnhcafpaaW.PrintWords Go.Proofs.YtodldpdnhcafpaaW.PrintLast Go.Proofs.YtodldpdnhcafpaaW.PrintMore
open Go.Proofs.Ytodldpdnhcafpaa.F Go.Proofs.Ytodldpdnhcafpaa.K
set_option linter.unusedSimpArgs false
set_option linter.unusedVariables false

theorem kw64 {x : Int} (h0 : -9223372036854775808 ≤ x) (h1 : x ≤ 9223372036854775807) : wrap64 x = x := by unfold wrap64; omega
/-- The kids' numbers up to the first that is out of order; whether none is. -/
def kgo (l : List S47) (en : Int) : Nat → List Int → Int → List Int × Bool
  | 0, pre, _ => (pre, true)
  | d + 1, pre, x => if x < en then (if (rd_T47 l x).f3 < 1 then (pre ++ [x], false) else if (rd_T47 l x).f3 > en - x then (pre ++ [x], false) else kgo l en d (pre ++ [x]) (x + (rd_T47 l x).f3)) else (pre, true)
def sizedB (l : List S47) (n : Int) : Bool := decide (0 ≤ n) && (decide (n < (l.length : Int)) && (decide (1 ≤ (rd_T47 l n).f3) && decide ((rd_T47 l n).f3 ≤ (l.length : Int) - n)))
def kspec (l : List S47) (n : Int) : List Int × Bool := if sizedB l n = true then kgo l (n + (rd_T47 l n).f3) l.length [] (n + 1) else ([], false)
def kidsOf (l : List S47) (n : Int) : List Int := if (kspec l n).2 = true then (kspec l n).1 else []

theorem sized_is (l : List S47) (hl : l.length ≤ 4398046511104) (n : Int) : tree_sized.f l n = some (sizedB l n) := by
  unfold tree_sized.f sizedB
  by_cases h1 : n ≥ 0
  · by_cases h2 : n < (l.length : Int)
    · rw [if_pos h1, if_pos h2, if_pos h1, kw64 (by omega) (by omega)]
      by_cases h3 : (rd_T47 l n).f3 ≥ 1
      · rw [if_pos h3]
        simp [h1, h2, show 1 ≤ (rd_T47 l n).f3 from h3]
      · rw [if_neg h3]
        simp [h1, h2, show ¬ 1 ≤ (rd_T47 l n).f3 from h3]
    · rw [if_pos h1, if_neg h2]; simp [h2]
  · rw [if_neg h1]; simp [show ¬ 0 ≤ n from h1]

theorem kids_loop (l : List S47) (hl : l.length ≤ 4398046511104) (n sz en : Int) (hen : en ≤ l.length) (he : wrap64 (n + sz) = en) (h0 : 0 ≤ en) (d : Nat) : ∀ (pre : List Int) (x : Int), 0 ≤ x → en - x ≤ d → (pre.length : Int) ≤ x → pre.length ≤ l.length →
    Ev (fun k => kids.l0 k en pre x l) (kgo l en d pre x) ∧ (kgo l en d pre x).1.length ≤ l.length ∧
    Ev (fun k => monikerref4_Kids.l0 k n sz pre x l) (if (kgo l en d pre x).2 = true then (kgo l en d pre x).1 else [], (kgo l en d pre x).2) := by
  induction d with
  | zero =>
    intro pre x hx hd hp hpl
    refine ⟨⟨1, fun m hm => ?_⟩, hpl, ⟨1, fun m hm => ?_⟩⟩
    · obtain ⟨k, rfl⟩ : ∃ j, m = j + 1 := ⟨m - 1, by omega⟩
      simp only [kids.l0, kgo]
      rw [if_neg (by omega)]
    · obtain ⟨k, rfl⟩ : ∃ j, m = j + 1 := ⟨m - 1, by omega⟩
      simp only [monikerref4_Kids.l0, kgo, he]
      rw [if_neg (by omega), if_pos trivial]
  | succ d ih =>
    intro pre x hx hd hp hpl
    have hlim : pre.length < 17592186044416 := by omega
    by_cases c : x < en
    · have hx2 : x < (l.length : Int) := by omega
      have hw : wrap64 (en - x) = en - x := kw64 (by omega) (by omega)
      have hl1 : (pre ++ [x]).length ≤ l.length := by rw [List.length_append, List.length_singleton]; omega
      by_cases c1 : (rd_T47 l x).f3 < 1
      · have e : kgo l en (d + 1) pre x = (pre ++ [x], false) := by simp only [kgo]; rw [if_pos c, if_pos c1]
        rw [e]
        refine ⟨⟨1, fun m hm => ?_⟩, hl1, ⟨1, fun m hm => ?_⟩⟩
        · obtain ⟨k, rfl⟩ : ∃ j, m = j + 1 := ⟨m - 1, by omega⟩
          simp only [kids.l0]
          rw [if_pos c, if_pos hx, if_pos hx2, if_pos c1]
        · obtain ⟨k, rfl⟩ : ∃ j, m = j + 1 := ⟨m - 1, by omega⟩
          simp only [monikerref4_Kids.l0, he]
          rw [if_pos c, if_pos hlim, if_pos hx, if_pos hx2, if_pos c1]
          simp
      · by_cases c2 : (rd_T47 l x).f3 > en - x
        · have e : kgo l en (d + 1) pre x = (pre ++ [x], false) := by simp only [kgo]; rw [if_pos c, if_neg c1, if_pos c2]
          rw [e]
          refine ⟨⟨1, fun m hm => ?_⟩, hl1, ⟨1, fun m hm => ?_⟩⟩
          · obtain ⟨k, rfl⟩ : ∃ j, m = j + 1 := ⟨m - 1, by omega⟩
            simp only [kids.l0]
            rw [if_pos c, if_pos hx, if_pos hx2, if_neg c1, hw, if_pos c2]
          · obtain ⟨k, rfl⟩ : ∃ j, m = j + 1 := ⟨m - 1, by omega⟩
            simp only [monikerref4_Kids.l0, he]
            rw [if_pos c, if_pos hlim, if_pos hx, if_pos hx2, if_neg c1, hw, if_pos c2]
            simp
        · have e : kgo l en (d + 1) pre x = kgo l en d (pre ++ [x]) (x + (rd_T47 l x).f3) := by simp only [kgo]; rw [if_pos c, if_neg c1, if_neg c2]
          rw [e]
          have hw2 : wrap64 (x + (rd_T47 l x).f3) = x + (rd_T47 l x).f3 := kw64 (by omega) (by omega)
          obtain ⟨i1, i2, i3⟩ := ih (pre ++ [x]) (x + (rd_T47 l x).f3) (by omega) (by omega) (by rw [List.length_append, List.length_singleton]; omega) hl1
          refine ⟨Ev.step (fun k => ?_) i1, i2, Ev.step (fun k => ?_) i3⟩
          · simp only [kids.l0]
            rw [if_pos c, if_pos hx, if_pos hx2, if_neg c1, hw, if_neg c2, hw2]
          · simp only [monikerref4_Kids.l0, he]
            rw [if_pos c, if_pos hlim, if_pos hx, if_pos hx2, if_neg c1, hw, if_neg c2, hw2]
    · have e : kgo l en (d + 1) pre x = (pre, true) := by simp only [kgo]; rw [if_neg c]
      rw [e]
      refine ⟨⟨1, fun m hm => ?_⟩, hpl, ⟨1, fun m hm => ?_⟩⟩
      · obtain ⟨k, rfl⟩ : ∃ j, m = j + 1 := ⟨m - 1, by omega⟩
        simp only [kids.l0]
        rw [if_neg c]
      · obtain ⟨k, rfl⟩ : ∃ j, m = j + 1 := ⟨m - 1, by omega⟩
        simp only [monikerref4_Kids.l0, he]
        rw [if_neg c, if_pos trivial]

theorem Kids_all (l : List S47) (hl : l.length ≤ 4398046511104) (n : Int) :
    Ev (fun k => kids.f k l n) (kspec l n) ∧ (kspec l n).1.length ≤ l.length ∧ Ev (fun k => monikerref4_Kids.f k l n) (kidsOf l n, (kspec l n).2) := by
  unfold kidsOf
  by_cases hs : sizedB l n = true
  · have h := hs
    unfold sizedB at h
    simp only [Bool.and_eq_true, decide_eq_true_eq] at h
    obtain ⟨h1, h2, h3, h4⟩ := h
    have hw : wrap64 (n + (rd_T47 l n).f3) = n + (rd_T47 l n).f3 := kw64 (by omega) (by omega)
    have hw1 : wrap64 (n + 1) = n + 1 := kw64 (by omega) (by omega)
    have hw2 : wrap64 ((l.length : Int) - n) = (l.length : Int) - n := kw64 (by omega) (by omega)
    obtain ⟨i1, i2, i3⟩ := kids_loop l hl n (rd_T47 l n).f3 (n + (rd_T47 l n).f3) (by omega) hw (by omega) l.length [] (n + 1) (by omega) (by omega) (by simp; omega) (by simp)
    have e : kspec l n = kgo l (n + (rd_T47 l n).f3) l.length [] (n + 1) := by unfold kspec; rw [if_pos hs]
    rw [e]
    refine ⟨Ev.congr (fun k => ?_) i1, i2, ?_⟩
    · unfold kids.f
      rw [sized_is l hl, hs]
      simp only [Option.bind_some, if_true]
      rw [if_pos h1, if_pos h2, hw, hw1]
    · unfold monikerref4_Kids.f
      simp only [if_neg (show ¬ n < 0 by omega), show decide (n ≥ (l.length : Int)) = false from decide_eq_false (by omega)]
      refine Ev.step (f := fun k => monikerref4_Kids.j1 k n (rd_T47 l n).f3 false l) (fun k => ?_) ?_
      · simp only [monikerref4_Kids.j0, hw2]
        rw [if_neg (by simp), if_pos h1, if_pos h2, if_neg (by omega), show decide ((rd_T47 l n).f3 > (l.length : Int) - n) = false from decide_eq_false (by omega)]
      · refine Ev.step (fun k => ?_) i3
        simp only [monikerref4_Kids.j1, hw1]
        rw [if_neg (by simp)]
  · have e : kspec l n = ([], false) := by unfold kspec; rw [if_neg hs]
    rw [e]
    have hs' : sizedB l n = false := by simpa using hs
    refine ⟨⟨0, fun k _ => ?_⟩, by simp, ?_⟩
    · simp only
      unfold kids.f
      rw [sized_is l hl, hs']
      simp
    · simp only [Bool.false_eq_true, if_false]
      have hbad : Ev (fun k => monikerref4_Kids.j0 k n true l) (([] : List Int), false) := ⟨1, fun m hm => by
        obtain ⟨k, rfl⟩ : ∃ j, m = j + 1 := ⟨m - 1, by omega⟩
        simp only [monikerref4_Kids.j0]; rfl⟩
      unfold monikerref4_Kids.f
      by_cases h1 : n < 0
      · simp only [if_pos h1]; exact hbad
      · simp only [if_neg h1]
        by_cases h2 : n ≥ (l.length : Int)
        · rw [decide_eq_true h2]; exact hbad
        · rw [decide_eq_false h2]
          have hw2 : wrap64 ((l.length : Int) - n) = (l.length : Int) - n := kw64 (by omega) (by omega)
          have hbad1 : ∀ sz, Ev (fun k => monikerref4_Kids.j1 k n sz true l) (([] : List Int), false) := fun sz => ⟨1, fun m hm => by
            obtain ⟨k, rfl⟩ : ∃ j, m = j + 1 := ⟨m - 1, by omega⟩
            simp only [monikerref4_Kids.j1]; rfl⟩
          refine Ev.step (f := fun k => monikerref4_Kids.j1 k n (rd_T47 l n).f3 true l) (fun k => ?_) (hbad1 _)
          simp only [monikerref4_Kids.j0, hw2]
          rw [if_neg (by simp), if_pos (by omega), if_pos (by omega)]
          by_cases h3 : (rd_T47 l n).f3 < 1
          · rw [if_pos h3]
          · rw [if_neg h3]
            have h4 : (rd_T47 l n).f3 > (l.length : Int) - n := by
              apply Classical.byContradiction
              intro h4
              apply hs
              unfold sizedB
              simp only [Bool.and_eq_true, decide_eq_true_eq]
              omega
            rw [decide_eq_true h4]
theorem Kids_is (l : List S47) (hl : l.length ≤ 4398046511104) (n : Int) : Ev (fun k => tree_Kids.f k l n) (kidsOf l n) := by
  obtain ⟨h1, h2, _⟩ := Kids_all l hl n
  unfold tree_Kids.f
  refine h1.bind ?_
  simp only [if_pos (show (kspec l n).1.length < 17592186044415 by omega)]
  exact Ev.now _
theorem pick_nil (i : Int) : pick [] i = -1 := by unfold pick; rw [if_neg (by simp)]
theorem Kid_is (l : List S47) (hl : l.length ≤ 4398046511104) (n i : Int) : Ev (fun k => tree_Kid.f k l n i) (pick (kidsOf l n) i) := by
  obtain ⟨h1, h2, _⟩ := Kids_all l hl n
  unfold tree_Kid.f kidsOf
  refine h1.bind ?_
  simp only [if_pos (show (kspec l n).1.length < 17592186044415 by omega)]
  split
  · exact Ev.now _
  · rw [pick_nil]; exact Ev.now _
/-- The node ahead of n whose kid n is. -/
def upGo (l : List S47) (n : Int) : Nat → Int
  | 0 => -1
  | d + 1 => if (rd_T47 l (d : Int)).f3 ≤ n - (d : Int) then upGo l n d else if metOf n (kidsOf l (d : Int)) = true then (d : Int) else upGo l n d
def upOf (l : List S47) (n : Int) : Int := if n < 0 then -1 else if n ≥ (l.length : Int) then -1 else upGo l n n.toNat
theorem up_loop (l : List S47) (hl : l.length ≤ 4398046511104) (n : Int) (hn : n < (l.length : Int)) (h0 : 0 ≤ n) (d : Nat) (hd : (d : Int) ≤ n) : Ev (fun k => tree_Up.l0 k l n ((d : Int) - 1)) (upGo l n d) := by
  induction d with
  | zero =>
    refine ⟨1, fun m hm => ?_⟩
    obtain ⟨k, rfl⟩ : ∃ j, m = j + 1 := ⟨m - 1, by omega⟩
    simp only [tree_Up.l0, upGo]
    rw [if_neg (by omega)]
  | succ d ih =>
    have i1 := ih (by omega)
    have e : ((d + 1 : Nat) : Int) - 1 = (d : Int) := by omega
    rw [e]
    have hw1 : wrap64 (n - (d : Int)) = n - (d : Int) := kw64 (by omega) (by omega)
    have hw2 : wrap64 ((d : Int) - 1) = (d : Int) - 1 := kw64 (by omega) (by omega)
    simp only [upGo]
    by_cases c : (rd_T47 l (d : Int)).f3 ≤ n - (d : Int)
    · rw [if_pos c]
      refine Ev.step (fun k => ?_) i1
      simp only [tree_Up.l0, hw1, hw2]
      rw [if_pos (by omega), if_pos (by omega), if_pos c]
    · rw [if_neg c]
      obtain ⟨k1, _, _⟩ := Kids_all l hl (d : Int)
      refine Ev.step (f := fun k => (kids.f k l (d : Int)).bind fun r => (if r.2 = true then (if metOf n r.1 = true then some (d : Int) else tree_Up.l0 k l n ((d : Int) - 1)) else tree_Up.l0 k l n ((d : Int) - 1))) (fun k => ?_) ?_
      · simp only [tree_Up.l0, hw1, hw2]
        rw [if_pos (by omega), if_pos (by omega), if_neg c]
      · refine k1.bind ?_
        unfold kidsOf
        by_cases c2 : (kspec l (d : Int)).2 = true
        · simp only [if_pos c2]
          by_cases c3 : metOf n (kspec l (d : Int)).1 = true
          · simp only [if_pos c3]; exact Ev.now _
          · simp only [if_neg c3]; exact i1
        · simp only [if_neg c2]
          rw [if_neg (by simp [metOf])]
          exact i1
theorem Up_is (l : List S47) (hl : l.length ≤ 4398046511104) (n : Int) : Ev (fun k => tree_Up.f k l n) (upOf l n) := by
  unfold tree_Up.f upOf
  by_cases h1 : n < 0
  · simp only [if_pos h1]; exact Ev.now _
  · simp only [if_neg h1]
    by_cases h2 : n ≥ (l.length : Int)
    · simp only [if_pos h2]; exact Ev.now _
    · simp only [if_neg h2]
      have := up_loop l hl n (by omega) (by omega) n.toNat (by omega)
      rw [show ((n.toNat : Nat) : Int) = n by omega] at this
      rw [kw64 (by omega) (by omega)]
      exact this
end Go.Proofs.Ytodldpdnhcafpaa.Q

-- Walk (25, 50): the iterator's contract
namespace Go.Proofs.Ytodldpdnhcafpaa.K
open Go.RowKit Go.Shelf Go.Proofs.YtodldpdnhcafpaaW.PrintWords Go.Proofs.YtodldpdnhcafpaaW.PrintLast Go.Proofs.YtodldpdnhcafpaaW.PrintMore
open Go.Proofs.Ytodldpdnhcafpaa.F
attribute [local go_sem] Oper.semAt_some max2_int min2_int max_two min_two
set_option linter.unusedVariables false
set_option linter.unusedSimpArgs false

/-- The numbers of a Walk from x on, up to en. -/
def walkL (l : List S47) (sk : Int → Bool) (en : Int) : Nat → Int → List Int
  | 0, _ => []
  | d + 1, x => if x < en then x :: (if sk x = true then (if (rd_T47 l x).f3 < 1 then [] else if (rd_T47 l x).f3 > en - x then [] else walkL l sk en d (x + (rd_T47 l x).f3)) else walkL l sk en d (x + 1)) else []
def walkOf (l : List S47) (sk : Int → Bool) (n : Int) : List Int := if Q.sizedB l n = true then walkL l sk (n + (rd_T47 l n).f3) l.length n else []
abbrev Nd (l : List S47) := { x : Int // 0 ≤ x ∧ x < (l.length : Int) }
def valsN {l : List S47} (xs : List (Nd l)) : List Int := xs.map (·.1)
/-- What is asked of skip: nil, or a function that only looks. -/
def SkipIs (w0 : World) (sv : Value) (sk : Int → Bool) : Prop :=
  (sv = Value.nilFunc ∧ ∀ x, sk x = false) ∨ (∃ g lb, sv = .func (.func g) #[] lb ∧ (∀ args W, (callFunc g args).run Try.prog W = .ok (.enter g args) W) ∧ ∀ (x : Int) (W : World), Below w0.heap.size w0 W → Calls Try.prog g (#[.int .i64 x] ++ lb) W fun e w' => e = .returned (.bool (sk x)) ∧ Below W.heap.size W w')
def KpW (n₀ b1 b2 b3 : Nat) (W W' : World) : Prop := Below n₀ W W' ∧ W'.heap[b1]? = W.heap[b1]? ∧ W'.heap[b2]? = W.heap[b2]? ∧ W'.heap[b3]? = W.heap[b3]?
theorem KpW.trans {n₀ b1 b2 b3 : Nat} {A B C : World} (h : KpW n₀ b1 b2 b3 A B) (k : KpW n₀ b1 b2 b3 B C) : KpW n₀ b1 b2 b3 A C := ⟨h.1.trans k.1, k.2.1.trans h.2.1, k.2.2.1.trans h.2.2.1, k.2.2.2.trans h.2.2.2⟩

theorem nil_nil (W : World) : (binOp BinOp.eql 40 Value.nilFunc Value.nilFunc).run Try.prog W = .ok (.bool true) W := by
  first | rfl | (simp [binOp, go_sem, Try.underlying40]; done)
theorem fn_nil (W : World) (g : Nat) (lb : Array Value) : (binOp BinOp.eql 40 (Value.func (.func g) #[] lb) Value.nilFunc).run Try.prog W = .ok (.bool false) W := by
  first | rfl | (simp [binOp, go_sem, Try.underlying40]; done)

set_option maxRecDepth 100000 in
set_option maxHeartbeats 2000000 in
theorem walk1_in (n : Nat) (hn : 1 ≤ n) (lp b1 b2 b3 : Nat) (w0 : World) (A : Option Addr) (c : Nat) (l : List S47) (m : Int) (sv : Value) (sk : Int → Bool) (hl : l.length ≤ 4398046511104) (hc : Kd.C k47 w0 A l.length l) (hlc : l.length ≤ c) (hsk : SkipIs w0 sv sk) (J Jx : List (Nd l) → World → Prop)
    (hJ : ∀ s X Y, J s X → Below X.heap.size X Y → J s Y)
    (hY : ∀ pre (x : Nd l) W, J pre W → pre.length < l.length → YieldAt Fence.wide (n - 1) Try.prog lp #[.int .i64 x.1] W fun e W' =>
      (e = .returned (.bool true) ∧ J (pre ++ [x]) W' ∧ KpW w0.heap.size b1 b2 b3 W W') ∨ (e = .returned (.bool false) ∧ Jx (pre ++ [x]) W'))
    (W : World) (hW : Below w0.heap.size w0 W) (h1 : W.heap[b1]? = some (.cells #[.slice A l.length c] 25 (0, 0))) (h2 : W.heap[b2]? = some (.cells #[.int .i64 m] 3 (0, 0))) (h3 : W.heap[b3]? = some (.cells #[sv] 40 (0, 0))) (h0 : J [] W) :
    CallsIn Fence.wide n Try.prog 50 #[.func (.yield lp) #[] #[], .pointer (some ⟨b1, 0, none⟩), .pointer (some ⟨b2, 0, none⟩), .pointer (some ⟨b3, 0, none⟩)] W fun e W' => (∃ v, e = .returned v) ∧
      ((∃ ys : List (Nd l), valsN ys = walkOf l sk m ∧ J ys W') ∨ (∃ pre : List (Nd l), valsN pre <+: walkOf l sk m ∧ Jx pre W')) := by
  have hu23 := Try.underlying23
  have hu25 := Try.underlying25
  have hu40 := Try.underlying40
  have hu47 := Try.underlying47
  have q1 : W.cell? ⟨b1, 0, none⟩ = some (.slice A l.length c) := (blk_cell h1 0).trans rfl
  have q2 : W.cell? ⟨b2, 0, none⟩ = some (.int .i64 m) := (blk_cell h2 0).trans rfl
  obtain ⟨wl, hwl⟩ : ∃ wl, walkOf l sk m = wl := ⟨_, rfl⟩
  rw [hwl]
  refine callsIn_of_wp Try.func50 rfl trivial ?_ rfl
  simp only [Try.ntmps50, List.size_toArray, List.length_cons, List.length_nil, Nat.reduceAdd, Nat.reduceSub, Array.replicate_succ, Array.replicate_zero, List.push_toArray, List.append_toArray, List.nil_append, List.cons_append]
  gi_wp2
  refine ⟨trivial, ?_⟩
  cases hs : Q.sizedB l m with
  | false =>
    have hwo : wl = [] := by rw [← hwl]; unfold walkOf; rw [hs]; rfl
    subst hwo
    refine (callsIn_wide.2 (tree_sized.calls A c l m false W (Kd.C_below hc hW) hlc (by rw [Q.sized_is l hl m, hs]))).mono ?_
    rintro e w1 ⟨rfl, hb1⟩
    have h01 := hJ _ _ _ h0 hb1
    gi_wp2
    refine bodyPost_ret (results_none rfl _ _ _) rfl ?_
    exact ⟨⟨_, rfl⟩, .inl ⟨[], rfl, h01⟩⟩
  | true =>
    refine (callsIn_wide.2 (tree_sized.calls A c l m true W (Kd.C_below hc hW) hlc (by rw [Q.sized_is l hl m, hs]))).mono ?_
    rintro e w1 ⟨rfl, hb1⟩
    have hW1 : Below w0.heap.size w0 w1 := hW.trans (hb1.mono hW.size)
    have h01 := hJ _ _ _ h0 hb1
    have g1 := blk_below h1 hb1
    have g2 := blk_below h2 hb1
    have g3 := blk_below h3 hb1
    clear q1 q2 h0 h1 h2 h3 hW hb1
    have hs' := hs
    unfold Q.sizedB at hs'
    simp only [Bool.and_eq_true, decide_eq_true_eq] at hs'
    obtain ⟨s1, s2, s3, s4⟩ := hs'
    obtain ⟨ad, rfl, y0, y1, y2, y3⟩ := at_T47 (Kd.C_below hc hW1) m s1 s2
    have q1 : w1.cell? ⟨b1, 0, none⟩ = some (.slice (some ad) l.length c) := (blk_cell g1 0).trans rfl
    have q2 : w1.cell? ⟨b2, 0, none⟩ = some (.int .i64 m) := (blk_cell g2 0).trans rfl
    have hw : wrap64 (m + (rd_T47 l m).f3) = m + (rd_T47 l m).f3 := by unfold wrap64; omega
    have hwo : walkL l sk (m + (rd_T47 l m).f3) l.length m = wl := by rw [← hwl]; unfold walkOf; rw [if_pos hs]
    clear hs hwl
    obtain ⟨en, hen⟩ : ∃ en, m + (rd_T47 l m).f3 = en := ⟨_, rfl⟩
    have hel : en ≤ (l.length : Int) := by omega
    have hme : m < en := by omega
    gi_wp2
    refine wpIn_wide.2 ?_
    go_quiet (fail)
    simp only [hw, hen] at hwo ⊢
    have q2' : (w1.drewN nq).cell? ⟨b2, 0, none⟩ = some (.int .i64 m) := q2
    gi_wp2
    have hd0 : Below w0.heap.size w0 (w1.drewN nq) := pw_below_drewN hW1 nq
    have hj0 : J [] (w1.drewN nq) := hJ _ _ _ h01 (pw_below_drewN (Below.refl _ _) nq)
    have k1 : (w1.drewN nq).heap[b1]? = some (.cells #[.slice (some ad) l.length c] 25 (0, 0)) := blk_drewN g1 nq
    have k3 : (w1.drewN nq).heap[b3]? = some (.cells #[sv] 40 (0, 0)) := blk_drewN g3 nq
    generalize w1.drewN nq = w2 at hd0 hj0 k1 k3 ⊢
    clear q1 q2 q2' g1 g2 g3 h01 hW1 y0 y1 y2 y3 hw
    gi_loopw [6, 7] (fun v6 v7 wr => ∃ (x : Int) (d : Nat) (pre : List (Nd l)), v6 = .int .i64 x ∧ m ≤ x ∧ x ≤ en ∧ (pre.length : Int) ≤ x - m ∧ en - x ≤ d ∧ valsN pre ++ walkL l sk en d x = wl ∧ J pre wr ∧ Below w0.heap.size w0 wr ∧ wr.heap[b1]? = some (.cells #[.slice (some ad) l.length c] 25 (0, 0)) ∧ wr.heap[b3]? = some (.cells #[sv] 40 (0, 0))) (fun v6 v7 _ => (en - intOf v6).toNat)
    case atStart => exact ⟨m, l.length, [], rfl, Int.le_refl _, by omega, by simp, by omega, by simpa [valsN] using hwo, hj0, hd0, k1, k3⟩
    case round =>
      obtain ⟨x, d, pre, rfl, hx, hxe, hpl, hxd, hpre, hJs, hB, r1, r3⟩ := hrel
      by_cases hlt : x < en
      · have hx0 : 0 ≤ x := by omega
        have hxl : x < (l.length : Int) := by omega
        obtain ⟨d, rfl⟩ : ∃ e, d = e + 1 := ⟨d - 1, by omega⟩
        simp only [walkL] at hpre
        rw [if_pos hlt] at hpre
        obtain ⟨fn, tmps, assign, body, hy, hR⟩ := hY pre ⟨x, hx0, hxl⟩ wr hJs (by omega)
        dsimp only at hy
        have hsn : valsN (pre ++ [(⟨x, hx0, hxl⟩ : Nd l)]) = valsN pre ++ [x] := by simp [valsN]
        gi_wp2
        refine hR.mono ?_
        rintro e W3 (⟨rfl, hJ3, hk3⟩ | ⟨rfl, hJx3⟩)
        · have hB3 := hB.trans hk3.1
          have t1 := hk3.2.1.trans r1
          have t3 := hk3.2.2.2.trans r3
          have q3 : W3.cell? ⟨b3, 0, none⟩ = some sv := (blk_cell t3 0).trans rfl
          have hw1 : wrap64 (x + 1) = x + 1 := by unfold wrap64; omega
          have hpl3 : (((pre ++ [(⟨x, hx0, hxl⟩ : Nd l)]).length : Nat) : Int) = (pre.length : Int) + 1 := by rw [List.length_append, List.length_singleton]; rfl
          rcases hsk with ⟨rfl, hsf⟩ | ⟨g, lb, rfl, eg, hsf⟩
          · rw [hsf x] at hpre
            simp only [Bool.false_eq_true, if_false] at hpre
            have nn := nil_nil W3
            gi_wp2
            refine ⟨fun _ h => (by cases h), ?_⟩
            gi_wp2
            go_roundw
            case rel => exact ⟨x + 1, d, pre ++ [⟨x, hx0, hxl⟩], rfl, by omega, by omega, by rw [hpl3]; omega, by omega, by rw [hsn, List.append_assoc]; exact hpre, hJ3, hB3, t1, t3⟩
            case measure => simp only [intOf]; omega
          · have nn := fn_nil W3 g lb
            gi_wp2
            refine ⟨trivial, ?_⟩
            refine (callsIn_wide.2 (hsf x W3 hB3)).mono ?_
            rintro e W4 ⟨rfl, hb4⟩
            have hJ4 := hJ _ _ _ hJ3 hb4
            have hB4 := hB3.trans (hb4.mono hB3.size)
            have v1 := blk_below t1 hb4
            have v3 := blk_below t3 hb4
            cases hq : sk x with
            | false =>
              rw [hq] at hpre
              simp only [Bool.false_eq_true, if_false] at hpre
              gi_wp2
              go_roundw
              case rel => exact ⟨x + 1, d, pre ++ [⟨x, hx0, hxl⟩], rfl, by omega, by omega, by rw [hpl3]; omega, by omega, by rw [hsn, List.append_assoc]; exact hpre, hJ4, hB4, v1, v3⟩
              case measure => simp only [intOf]; omega
            | true =>
              rw [hq] at hpre
              simp only [if_true] at hpre
              obtain ⟨ad', ea, z0, z1, z2, z3⟩ := at_T47 (Kd.C_below hc hB4) x hx0 hxl
              cases ea
              have q1 : W4.cell? ⟨b1, 0, none⟩ = some (.slice (some ad) l.length c) := (blk_cell v1 0).trans rfl
              have hw3 : wrap64 (en - x) = en - x := by unfold wrap64; omega
              have hdone : ∀ X, valsN pre ++ [x] = X → valsN (pre ++ [(⟨x, hx0, hxl⟩ : Nd l)]) = X := fun X h => by rw [hsn]; exact h
              by_cases c1 : (rd_T47 l x).f3 < 1
              · rw [if_pos c1] at hpre
                gi_wp2
                refine bodyPost_ret (results_none rfl _ _ _) rfl ?_
                exact ⟨⟨_, rfl⟩, .inl ⟨_, hdone _ hpre, hJ4⟩⟩
              · rw [if_neg c1] at hpre
                by_cases c2 : (rd_T47 l x).f3 > en - x
                · rw [if_pos c2] at hpre
                  gi_wp2
                  all_goals (refine bodyPost_ret (results_none rfl _ _ _) rfl ?_)
                  all_goals exact ⟨⟨_, rfl⟩, .inl ⟨_, hdone _ hpre, hJ4⟩⟩
                · rw [if_neg c2] at hpre
                  have hw4 : wrap64 (x + (rd_T47 l x).f3) = x + (rd_T47 l x).f3 := by unfold wrap64; omega
                  gi_wp2
                  go_roundw
                  case rel => exact ⟨x + (rd_T47 l x).f3, d, pre ++ [⟨x, hx0, hxl⟩], rfl, by omega, by omega, by rw [hpl3]; omega, by omega, by rw [hsn, List.append_assoc]; exact hpre, hJ4, hB4, v1, v3⟩
                  case measure => simp only [intOf]; omega
        · gi_wp2
          refine bodyPost_ret (results_none rfl _ _ _) rfl ?_
          refine ⟨⟨_, rfl⟩, .inr ⟨_, ?_, hJx3⟩⟩
          rw [hsn, ← hpre]
          exact ⟨_, by rw [List.append_assoc]; rfl⟩
      · gi_wp2
        go_end0
        refine ⟨⟨_, rfl⟩, .inl ⟨pre, ?_, hJs⟩⟩
        rw [← hpre]
        cases d with
        | zero => simp [walkL]
        | succ d => simp only [walkL]; rw [if_neg (by omega), List.append_nil]

theorem KpW_b {n₀ B b1 b2 b3 : Nat} (hn : n₀ ≤ B) (h1 : b1 < B) (h2 : b2 < B) (h3 : b3 < B) (W : World) (l : Nat) (o o' : Obj) (hl : B ≤ l) (ho : W.heap[l]? = some o) (hc : o.isCells = false) (hw : o.isWalk = false) : KpW n₀ b1 b2 b3 W (W.putObj l o') :=
  ⟨(Below.refl n₀ W).grown (grownBy_putObj' W l o') (by have := (Array.getElem?_eq_some_iff.1 ho).1; omega) (fun k e => by cases e; omega), World.putObj_heap_other (by omega), World.putObj_heap_other (by omega), World.putObj_heap_other (by omega)⟩

theorem walk_stops (n : Nat) (hn : 1 ≤ n) (b1 b2 b3 : Nat) (w0 w : World) (A : Option Addr) (c : Nat) (l : List S47) (m : Int) (sv : Value) (sk : Int → Bool) (hl : l.length ≤ 4398046511104) (hc : Kd.C k47 w0 A l.length l) (hlc : l.length ≤ c) (hsk : SkipIs w0 sv sk)
    (hW : Below w0.heap.size w0 w) (h1 : w.heap[b1]? = some (.cells #[.slice A l.length c] 25 (0, 0))) (h2 : w.heap[b2]? = some (.cells #[.int .i64 m] 3 (0, 0))) (h3 : w.heap[b3]? = some (.cells #[sv] 40 (0, 0))) :
    SeqStopsK Fence.wide n Try.prog 50 #[.pointer (some ⟨b1, 0, none⟩), .pointer (some ⟨b2, 0, none⟩), .pointer (some ⟨b3, 0, none⟩)] (fun x : Nd l => #[.int .i64 x.1]) (KpW w0.heap.size b1 b2 b3) (fun ys => valsN ys = walkOf l sk m) (fun pre => valsN pre <+: walkOf l sk m) l.length w :=
  fun lp J Jx W hb hJ _ hY h0 => walk1_in n hn lp b1 b2 b3 w0 A c l m sv sk hl hc hlc hsk J Jx (fun s X Y h hb => hJ s X Y none h ⟨hb.os, hb.tape, hb.output, hb.size, fun k hk _ => hb.block k hk⟩ (fun r e => by cases e)) hY W (hW.trans (hb.mono hW.size)) (blk_below h1 hb) (blk_below h2 hb) (blk_below h3 hb) h0

theorem walk.calls (A : Option Addr) (m c : Nat) (n : Int) (sv : Value) (hsv : sv = Value.nilFunc ∨ ∃ g lb, sv = .func (.func g) #[] lb) (w : World) :
    Calls Try.prog 25 #[.agg #[.slice A m c], .int .i64 n, sv] w fun e w' => ∃ b1 b2 b3, e = .returned (.func (.func 50) #[] #[.pointer (some ⟨b1, 0, none⟩), .pointer (some ⟨b2, 0, none⟩), .pointer (some ⟨b3, 0, none⟩)]) ∧
      w'.heap[b1]? = some (.cells #[.slice A m c] 25 (0, 0)) ∧ w'.heap[b2]? = some (.cells #[.int .i64 n] 3 (0, 0)) ∧ w'.heap[b3]? = some (.cells #[sv] 40 (0, 0)) ∧ w.heap.size ≤ b1 ∧ w.heap.size ≤ b2 ∧ w.heap.size ≤ b3 ∧ Below w.heap.size w w' := by
  have hu25 := Try.underlying25
  have hu40 := Try.underlying40
  have HB := Aside0.mk (Below.refl w.heap.size w)
  rcases hsv with rfl | ⟨g, lb, rfl⟩
  · go_enter Try.func25, Try.ntmps25
    go_wp2_with (first
      | ((with_reducible refine gate_dst (N := 3) rfl ?_); refine box_event ?hg3 (N := 3) ?hd3 (cs := #[.slice A m c]) (t := 25) ?hr3 ?_; (case hd3 => rfl); (case hg3 => rfl); (case hr3 => first | (go_simp; done) | (go_simp; rfl)); intro g3 hg w1 hbox hb; have n0_ := Aside0.mk (below_step HB.out hb); have n1_ := Aside0.mk hbox; have GE3 := Aside0.mk (show w.heap.size ≤ g3 by rw [hg]; exact Nat.le_refl _); clear HB; have HB := n0_; have BK3 := n1_; clear n0_ n1_ hb hbox hg)
      | ((with_reducible refine gate_dst (N := 4) rfl ?_); refine box_event ?hg4 (N := 4) ?hd4 (cs := #[.int .i64 n]) (t := 3) ?hr4 ?_; (case hd4 => rfl); (case hg4 => rfl); (case hr4 => first | (go_simp; done) | (go_simp; rfl)); intro g4 hg w2 hbox hb; have n0_ := Aside0.mk (below_step HB.out hb); have n1_ := Aside0.mk hbox; have n2_ := Aside0.mk (blk_below BK3.out hb); have GE4 := Aside0.mk (show w.heap.size ≤ g4 by rw [hg]; exact HB.out.size); clear HB BK3; have HB := n0_; have BK4 := n1_; have BK3 := n2_; clear n0_ n1_ n2_ hb hbox hg)
      | ((with_reducible refine gate_dst (N := 5) rfl ?_); refine box_event ?hg5 (N := 5) ?hd5 (cs := #[Value.nilFunc]) (t := 40) ?hr5 ?_; (case hd5 => rfl); (case hg5 => rfl); (case hr5 => first | (go_simp; done) | (go_simp; rfl)); intro g5 hg w3 hbox hb; have n0_ := Aside0.mk (below_step HB.out hb); have n1_ := Aside0.mk hbox; have n2_ := Aside0.mk (blk_below BK3.out hb); have n3_ := Aside0.mk (blk_below BK4.out hb); have GE5 := Aside0.mk (show w.heap.size ≤ g5 by rw [hg]; exact HB.out.size); clear HB BK3 BK4; have HB := n0_; have BK5 := n1_; have BK3 := n2_; have BK4 := n3_; clear n0_ n1_ n2_ n3_ hb hbox hg))
    go_ret
    exact ⟨g3, g4, g5, rfl, BK3.out, BK4.out, BK5.out, GE3.out, GE4.out, GE5.out, HB.out⟩
  · go_enter Try.func25, Try.ntmps25
    go_wp2_with (first
      | ((with_reducible refine gate_dst (N := 3) rfl ?_); refine box_event ?hg3 (N := 3) ?hd3 (cs := #[.slice A m c]) (t := 25) ?hr3 ?_; (case hd3 => rfl); (case hg3 => rfl); (case hr3 => first | (go_simp; done) | (go_simp; rfl)); intro g3 hg w1 hbox hb; have n0_ := Aside0.mk (below_step HB.out hb); have n1_ := Aside0.mk hbox; have GE3 := Aside0.mk (show w.heap.size ≤ g3 by rw [hg]; exact Nat.le_refl _); clear HB; have HB := n0_; have BK3 := n1_; clear n0_ n1_ hb hbox hg)
      | ((with_reducible refine gate_dst (N := 4) rfl ?_); refine box_event ?hg4 (N := 4) ?hd4 (cs := #[.int .i64 n]) (t := 3) ?hr4 ?_; (case hd4 => rfl); (case hg4 => rfl); (case hr4 => first | (go_simp; done) | (go_simp; rfl)); intro g4 hg w2 hbox hb; have n0_ := Aside0.mk (below_step HB.out hb); have n1_ := Aside0.mk hbox; have n2_ := Aside0.mk (blk_below BK3.out hb); have GE4 := Aside0.mk (show w.heap.size ≤ g4 by rw [hg]; exact HB.out.size); clear HB BK3; have HB := n0_; have BK4 := n1_; have BK3 := n2_; clear n0_ n1_ n2_ hb hbox hg)
      | ((with_reducible refine gate_dst (N := 5) rfl ?_); refine box_event ?hg5 (N := 5) ?hd5 (cs := #[.func (.func g) #[] lb]) (t := 40) ?hr5 ?_; (case hd5 => rfl); (case hg5 => rfl); (case hr5 => first | (go_simp; done) | (go_simp; rfl)); intro g5 hg w3 hbox hb; have n0_ := Aside0.mk (below_step HB.out hb); have n1_ := Aside0.mk hbox; have n2_ := Aside0.mk (blk_below BK3.out hb); have n3_ := Aside0.mk (blk_below BK4.out hb); have GE5 := Aside0.mk (show w.heap.size ≤ g5 by rw [hg]; exact HB.out.size); clear HB BK3 BK4; have HB := n0_; have BK5 := n1_; have BK3 := n2_; have BK4 := n3_; clear n0_ n1_ n2_ n3_ hb hbox hg))
    go_ret
    exact ⟨g3, g4, g5, rfl, BK3.out, BK4.out, BK5.out, GE3.out, GE4.out, GE5.out, HB.out⟩
end Go.Proofs.Ytodldpdnhcafpaa.K

-- chosen (26, 52): its contract, as a Walk asks it
namespace Go.Proofs.Ytodldpdnhcafpaa.K
open Go.RowKit Go.Shelf Go.Proofs.YtodldpdnhcafpaaW.PrintWords Go.Proofs.YtodldpdnhcafpaaW.PrintLast Go.Proofs.YtodldpdnhcafpaaW.PrintMore
open Go.Proofs.Ytodldpdnhcafpaa.F
set_option linter.unusedVariables false
set_option linter.unusedSimpArgs false

/-- The bit that is asked. -/
def chV (bits x : Int) : Int := Go.bits .and .u64 (shr .u64 bits (IntKind.u64.wrap (Go.bits .and .i64 x 63))) 1
def chB (bits x : Int) : Bool := chV bits x == 1
theorem chosen1.calls (bits x : Int) (b : Nat) (W : World) (hb : W.heap[b]? = some (.cells #[.int .u64 bits] 36 (0, 0))) :
    Calls Try.prog 52 #[.int .i64 x, .pointer (some ⟨b, 0, none⟩)] W fun e w' => e = .returned (.bool (chB bits x)) ∧ Below W.heap.size W w' := by
  have hu36 := Try.underlying36
  have q : W.cell? ⟨b, 0, none⟩ = some (.int .u64 bits) := (blk_cell hb 0).trans rfl
  have HB := Aside0.mk (Below.refl W.heap.size W)
  go_enter Try.func52, Try.ntmps52
  go_wp2
  go_ret
  exact ⟨rfl, HB.out⟩
theorem nil_skip (w0 : World) : SkipIs w0 Value.nilFunc (fun _ => false) := .inl ⟨rfl, fun _ => rfl⟩
theorem chosen.calls (bits : Int) (w : World) :
    Calls Try.prog 26 #[.int .u64 bits] w fun e w' => ∃ b, e = .returned (.func (.func 52) #[] #[.pointer (some ⟨b, 0, none⟩)]) ∧ w'.heap[b]? = some (.cells #[.int .u64 bits] 36 (0, 0)) ∧ w.heap.size ≤ b ∧ Below w.heap.size w w' := by
  have hu36 := Try.underlying36
  have HB := Aside0.mk (Below.refl w.heap.size w)
  go_enter Try.func26, Try.ntmps26
  go_wp2_with (first
    | ((with_reducible refine gate_dst (N := 1) rfl ?_); refine box_event ?hg3 (N := 1) ?hd3 (cs := #[.int .u64 bits]) (t := 36) ?hr3 ?_; (case hd3 => rfl); (case hg3 => rfl); (case hr3 => first | (go_simp; done) | (go_simp; rfl)); intro g3 hg w1 hbox hb; have n0_ := Aside0.mk (below_step HB.out hb); have n1_ := Aside0.mk hbox; have GE3 := Aside0.mk (show w.heap.size ≤ g3 by rw [hg]; exact Nat.le_refl _); clear HB; have HB := n0_; have BK3 := n1_; clear n0_ n1_ hb hbox hg))
  go_ret
  exact ⟨g3, rfl, BK3.out, GE3.out, HB.out⟩
end Go.Proofs.Ytodldpdnhcafpaa.K

-- The way out of a function that has ranged over functions, whatever its results are
namespace Go.Proofs.Ytodldpdnhcafpaa.F
open Go.RowKit Go.Proofs.YtodldpdnhcafpaaW.PrintWords
open Go.Proofs.Ytodldpdnhcafpaa.K

/-- C: what is known of the world at the way out; it abides the taking in of a mark. -/
theorem out_marks {n : Nat} {P : Program} {fn : Func} {tmps : Array Value} {R : Ending → World → Prop} (w : World) (C : World → Prop)
    (hC : ∀ (W : World) (D : Nat), C W → w.heap.size ≤ D → W.heap[D]? = some (.deferred (some [])) → C (W.putObj D (.deferred none)))
    (hend : ∀ W, C W → ∃ v, (results fn tmps).run P W = .ok v W ∧ R (.returned v) W) :
    ∀ (ds : List Nat) (W : World), (∀ D ∈ ds, w.heap.size ≤ D ∧ W.heap[D]? = some (.deferred (some []))) → ds.Nodup → C W →
    LeavesInM Fence.wide n P fn tmps R (ds.map mark) .returning W
  | [], W, _, _, h => hend W h
  | D :: ds, W, hd, hn, h => by
    obtain ⟨h1, h2⟩ := hd D List.mem_cons_self
    refine ⟨by simp, .inl ⟨D, _, rfl, run_takeDeferred h2, ?_⟩⟩
    refine out_marks w C hC hend ds _ (fun D' hD' => ?_) (List.nodup_cons.1 hn).2 (hC W D h h1 h2)
    obtain ⟨a1, a2⟩ := hd D' (List.mem_cons_of_mem _ hD')
    exact ⟨a1, (World.putObj_heap_other (fun e => by subst e; exact (List.nodup_cons.1 hn).1 hD')).trans a2⟩
end Go.Proofs.Ytodldpdnhcafpaa.F

-- A text of this session's own program (wip/myprint.sh over a changed print tool): functions and their walks
namespace Go.Proofs.Ytodldpdnhcafpaa.F
open Go.RowKit Go.Proofs.YtodldpdnhcafpaaW.PrintWords Go.Proofs.YtodldpdnhcafpaaW.PrintLast Go.Proofs.YtodldpdnhcafpaaW.PrintMore
attribute [local go_sem] max2_int min2_int max_two min_two max_three min_three max_four min_four   -- for this text's walks alone
set_option linter.unusedVariables false
set_option linter.unusedSimpArgs false

/-! ### monikerref4_Shaped: function 59 -/
mutual
def monikerref4_Shaped.j0 : Nat → Bool → List (S47) → Option (Bool)
  | 0, _, _ => none
  | k + 1, x20, x291000 => if x20 = true then (some false) else (monikerref4_Shaped.l0 k 0 x291000)
def monikerref4_Shaped.l0 : Nat → Int → List (S47) → Option (Bool)
  | 0, _, _ => none
  | k + 1, x3, x291000 => if x3 < (x291000.length : Int) then ((monikerref4_Kids.f k x291000 x3).bind fun bt292 => (if bt292.2 = true then (if 0 ≤ x3 then (if (wrap64 ((rd_T47 x291000 x3).f0)) ≥ 58 then (some false) else (monikerref4_Shaped.l0 k (wrap64 (x3 + 1)) x291000)) else (none)) else (some false))) else (some true)
end
def monikerref4_Shaped.f (k : Nat) (l0_0 : List (S47)) : Option (Bool) := if (l0_0.length : Int) = 0 then (monikerref4_Shaped.j0 k true l0_0) else (if 0 < (l0_0.length : Int) then (monikerref4_Shaped.j0 k (((rd_T47 l0_0 0).f3) != (l0_0.length : Int)) l0_0) else (none))
set_option maxHeartbeats 8000000 in
set_option maxRecDepth 100000 in
theorem monikerref4_Shaped.calls (k : Nat) (A0_0 : Option Addr) (c0_0 : Nat) (l0_0 : List (S47)) (r : Bool) (w : World) (hr0_0 : Kd.C k47 w A0_0 l0_0.length l0_0) (hc0_0 : l0_0.length ≤ c0_0) (h : monikerref4_Shaped.f k l0_0 = some r) :
    Calls Try.prog 59 #[.agg #[.slice A0_0 l0_0.length c0_0]] w fun e w' => e = .returned (.bool r) ∧ Below w.heap.size w w' := by
  have hu25 := Try.underlying25
  have HR0_0 := Aside0.mk hr0_0
  have HC0_0 := Aside0.mk hc0_0
  clear hr0_0 hc0_0
  have HB := Aside0.mk (Below.refl w.heap.size w)
  have H : (if (l0_0.length : Int) = 0 then (monikerref4_Shaped.j0 k true l0_0) else (if 0 < (l0_0.length : Int) then (monikerref4_Shaped.j0 k (((rd_T47 l0_0 0).f3) != (l0_0.length : Int)) l0_0) else (none))) = some r := h
  clear h
  have HC2 := Aside0.mk H
  clear H
  go_enter Try.func59, Try.ntmps59
  go_upto_region 1 with (first | ((with_reducible refine gate_dst (N := 1) rfl ?_); (try (refine gate_guard (by rfl) ?_; dsimp only)); refine box_event ?hg (N := 1) ?hd (cs := #[.slice A0_0 l0_0.length c0_0]) (t := 25) ?hr ?_; (case hd => rfl); (case hg => rfl); (case hr => first | (go_simp; done) | (go_simp; rfl)); intro gb290 hg w3 hbox hb; have n0_ := Aside0.mk (below_step (by repeat (first | (with_reducible first | exact HB.out | apply below_alloc | apply pw_below_drewN | apply below_drew1) | exact HB.out)) hb); have n1_ := Aside0.mk (hbox); have n2_ := Aside0.mk ((by rw [hg]; exact (below_size (by repeat (first | (with_reducible first | exact HB.out | apply below_alloc | apply pw_below_drewN | apply below_drew1) | exact HB.out))) : w.heap.size ≤ gb290)); have n3_ := Aside0.mk ((by rw [hg]; exact (below_size (by repeat (first | (with_reducible first | exact HB.out | apply below_alloc | apply pw_below_drewN | apply below_drew1) | exact HB.out))) : w.heap.size ≤ gb290)); clear HB; have HB := n0_; have BK290 := n1_; have GW290 := n2_; have GE290 := n3_; clear n0_ n1_ n2_ n3_; clear hb hbox hg))
  repeat (go_quiet (first | ((with_reducible refine gate_dst (N := 1) rfl ?_); (try (refine gate_guard (by rfl) ?_; dsimp only)); refine box_event ?hg (N := 1) ?hd (cs := #[.slice A0_0 l0_0.length c0_0]) (t := 25) ?hr ?_; (case hd => rfl); (case hg => rfl); (case hr => first | (go_simp; done) | (go_simp; rfl)); intro gb290 hg w3 hbox hb; have n0_ := Aside0.mk (below_step (by repeat (first | (with_reducible first | exact HB.out | apply below_alloc | apply pw_below_drewN | apply below_drew1) | exact HB.out)) hb); have n1_ := Aside0.mk (hbox); have n2_ := Aside0.mk ((by rw [hg]; exact (below_size (by repeat (first | (with_reducible first | exact HB.out | apply below_alloc | apply pw_below_drewN | apply below_drew1) | exact HB.out))) : w.heap.size ≤ gb290)); have n3_ := Aside0.mk ((by rw [hg]; exact (below_size (by repeat (first | (with_reducible first | exact HB.out | apply below_alloc | apply pw_below_drewN | apply below_drew1) | exact HB.out))) : w.heap.size ≤ gb290)); clear HB; have HB := n0_; have BK290 := n1_; have GW290 := n2_; have GE290 := n3_; clear n0_ n1_ n2_ n3_; clear hb hbox hg)); go_upto_region 1 with (first | ((with_reducible refine gate_dst (N := 1) rfl ?_); (try (refine gate_guard (by rfl) ?_; dsimp only)); refine box_event ?hg (N := 1) ?hd (cs := #[.slice A0_0 l0_0.length c0_0]) (t := 25) ?hr ?_; (case hd => rfl); (case hg => rfl); (case hr => first | (go_simp; done) | (go_simp; rfl)); intro gb290 hg w3 hbox hb; have n0_ := Aside0.mk (below_step (by repeat (first | (with_reducible first | exact HB.out | apply below_alloc | apply pw_below_drewN | apply below_drew1) | exact HB.out)) hb); have n1_ := Aside0.mk (hbox); have n2_ := Aside0.mk ((by rw [hg]; exact (below_size (by repeat (first | (with_reducible first | exact HB.out | apply below_alloc | apply pw_below_drewN | apply below_drew1) | exact HB.out))) : w.heap.size ≤ gb290)); have n3_ := Aside0.mk ((by rw [hg]; exact (below_size (by repeat (first | (with_reducible first | exact HB.out | apply below_alloc | apply pw_below_drewN | apply below_drew1) | exact HB.out))) : w.heap.size ≤ gb290)); clear HB; have HB := n0_; have BK290 := n1_; have GW290 := n2_; have GE290 := n3_; clear n0_ n1_ n2_ n3_; clear hb hbox hg)))
  (try simp only [Act.put, List.setIfInBounds_toArray, List.set_cons_zero, List.set_cons_succ])
  go_cut [20] (fun v20 wc => ∃ (kq : Nat) (x20_1 : Bool), v20 = .bool x20_1 ∧ Aside0 (monikerref4_Shaped.j0 kq x20_1 l0_0 = some r) ∧ Aside0 (kq ≤ k) ∧ Aside0 (wc.heap[gb290]? = some (.cells #[(.slice A0_0 l0_0.length c0_0)] 25 (0, 0))) ∧ Aside0 (Below w.heap.size w wc))
  case first =>
    have H := HC2.out
    clear HC2
    by_cases c4 : (l0_0.length : Int) = 0
    · rw [if_pos c4] at H
      have c4b0 : ((l0_0.length : Int) == 0) = true := beq_iff_eq.mpr c4
      have c4b1 : ((l0_0.length : Int) != 0) = false := bne_eq_false_iff_eq.mpr c4
      clear c4
      (first | rw [c4b0] | (simp only [i64_w, i32_w]; rw [c4b0]) | skip)
      have H' := Aside0.mk H
      clear H
      have hcz5_0 : w3.cell? ⟨gb290, 0, none⟩ = some (.slice A0_0 l0_0.length c0_0) := (blk_cell BK290.out 0).trans rfl
      have hfz5_0 := blk_frozen BK290.out 0
      go_wp2
      repeat (go_quiet (fail); try go_wp2)
      go_meet
      case rel => exact ⟨_, (true), (by first | rfl | (simp; done) | (simp [*]; done)), H', ⟨by first | omega | exact Nat.le_refl _⟩, ⟨by (with_reducible repeat (first | refine blk_drewN ?_ _ | refine blk_drew ?_ | refine blk_alloc ?_ _)); exact BK290.out⟩, ⟨by repeat (first | (with_reducible first | exact HB.out | apply below_alloc | apply pw_below_drewN | apply below_drew1 | refine below_set ?_ GE290.out) | exact HB.out)⟩⟩
    · rw [if_neg c4] at H
      have c4b0 : ((l0_0.length : Int) == 0) = false := beq_eq_false_iff_ne.mpr c4
      have c4b1 : ((l0_0.length : Int) != 0) = true := bne_iff_ne.mpr c4
      have c4b2 : ¬ (l0_0 = []) := fun h_ => c4 (by rw [h_]; rfl)
      (first | rw [c4b0] | (simp only [i64_w, i32_w]; rw [c4b0]) | skip)
      by_cases c6 : 0 < (l0_0.length : Int)
      · rw [if_pos c6] at H
        have c6b0 : decide (0 < (l0_0.length : Int)) = true := decide_eq_true c6
        have c6b1 : decide (0 < l0_0.length) = true := decide_eq_true (by omega)
        clear c6
        have H' := Aside0.mk H
        clear H
        have hcz7_0 : w3.cell? ⟨gb290, 0, none⟩ = some (.slice A0_0 l0_0.length c0_0) := (blk_cell BK290.out 0).trans rfl
        have hfz7_0 := blk_frozen BK290.out 0
        have p291 : 0 ≤ (0 : Int) := (by omega)
        have q291 : 0 < (l0_0.length : Int) := of_decide_eq_true (by first | (with_reducible assumption) | assumption)
        obtain ⟨ad291, e291, hx291_0, hx291_1, hx291_2, hx291_3⟩ := at_T47 HR0_0.out 0 p291 q291
        cases e291
        have qi291 : (0 < l0_0.length) = True := eq_true (by omega)
        (try rw [show ((0 : Int)).toNat = 0 from rfl] at hx291_0)
        (try rw [show 0 * 4 = 0 from rfl] at hx291_0)
        (try rw [Addr.add_zero'] at hx291_0)
        (try rw [show ((0 : Int)).toNat = 0 from rfl] at hx291_1)
        (try rw [show 0 * 4 = 0 from rfl] at hx291_1)
        (try rw [Addr.add_zero'] at hx291_1)
        (try rw [show ((0 : Int)).toNat = 0 from rfl] at hx291_2)
        (try rw [show 0 * 4 = 0 from rfl] at hx291_2)
        (try rw [Addr.add_zero'] at hx291_2)
        (try rw [show ((0 : Int)).toNat = 0 from rfl] at hx291_3)
        (try rw [show 0 * 4 = 0 from rfl] at hx291_3)
        (try rw [Addr.add_zero'] at hx291_3)
        replace hx291_0 := (HB.out.cell (World.block_lt_of_cell? w _ hx291_0)).trans hx291_0
        replace hx291_1 := (HB.out.cell (World.block_lt_of_cell? w _ hx291_1)).trans hx291_1
        replace hx291_2 := (HB.out.cell (World.block_lt_of_cell? w _ hx291_2)).trans hx291_2
        replace hx291_3 := (HB.out.cell (World.block_lt_of_cell? w _ hx291_3)).trans hx291_3
        replace p291 := eq_true p291
        replace q291 := eq_true q291
        go_wp2
        repeat (go_quiet (fail); try go_wp2)
        go_meet
        case rel => exact ⟨_, ((((rd_T47 l0_0 0).f3) != (l0_0.length : Int))), (by first | rfl | (simp; done) | (simp [*]; done)), H', ⟨by first | omega | exact Nat.le_refl _⟩, ⟨by (with_reducible repeat (first | refine blk_drewN ?_ _ | refine blk_drew ?_ | refine blk_alloc ?_ _)); exact BK290.out⟩, ⟨by repeat (first | (with_reducible first | exact HB.out | apply below_alloc | apply pw_below_drewN | apply below_drew1 | refine below_set ?_ GE290.out) | exact HB.out)⟩⟩
      · rw [if_neg c6] at H
        exact absurd H (by simp)
  case rest =>
    clear HC2
    try clear p2
    try clear q2
    try clear hx2
    try clear qi2
    try clear c4
    try clear c4b0
    try clear c4b1
    try clear c4b2
    try clear c5
    try clear c6
    try clear c6b0
    try clear c6b1
    try clear hcz5_0
    try clear hcz7_0
    try clear hfz5_0
    try clear hfz7_0
    try clear hx291_0
    try clear hx291_1
    try clear hx291_2
    try clear hx291_3
    try clear p291
    try clear q291
    obtain ⟨kq, x20_1, rfl, HA, HJ1, BK290, HB⟩ := hcut
    cases kq with
    | zero => exact absurd HA.out (by simp [monikerref4_Shaped.j0])
    | succ kj1 =>
      have H := HA.out
      clear HA
      simp only [monikerref4_Shaped.j0] at H
      by_cases c8 : x20_1 = true
      · subst c8
        have H1 : (some false) = some r := by rw [if_pos rfl] at H; exact H
        clear H
        have H := H1
        clear H1
        obtain rfl := Option.some.inj H
        go_wp2
        repeat (go_quiet (fail); try go_wp2)
        go_ret
        exact ⟨by first | rfl | (simp [errW_none, errW_some] <;> rfl) | (simp [*, errW_none, errW_some] <;> rfl), by repeat (first | (with_reducible first | exact HB.out | apply below_alloc | apply pw_below_drewN | apply below_drew1 | refine below_set ?_ GE290.out) | exact HB.out)⟩
      · replace c8 := Bool.eq_false_iff.mpr c8
        subst c8
        have H1 : (monikerref4_Shaped.l0 kj1 0 l0_0) = some r := by rw [if_neg (show ¬ (false = true) by decide)] at H; exact H
        clear H
        have H := H1
        clear H1
        have H' := Aside0.mk H
        clear H
        go_wp2
        repeat (go_quiet (fail); try go_wp2)
        go_loopg [3] kj1 (fun kq v3 w' => ∃ (x3_2 : Int), v3 = .int .i64 x3_2 ∧ Aside0 (monikerref4_Shaped.l0 kq x3_2 l0_0 = some r) ∧ Aside0 (kq ≤ kj1) ∧ Aside0 (w'.heap[gb290]? = some (.cells #[(.slice A0_0 l0_0.length c0_0)] 25 (0, 0))) ∧ Aside0 (Below w.heap.size w w'))
        case atStart => exact ⟨(0), (by first | rfl | (simp; done) | (simp [*]; done)), H', ⟨Nat.le_refl _⟩, ⟨by (with_reducible repeat (first | refine blk_drewN ?_ _ | refine blk_drew ?_ | refine blk_alloc ?_ _)); exact BK290.out⟩, ⟨by repeat (first | (with_reducible first | exact HB.out | apply below_alloc | apply pw_below_drewN | apply below_drew1 | refine below_set ?_ GE290.out) | exact HB.out)⟩⟩
        case round =>
          clear H'
          try clear p2
          try clear q2
          try clear hx2
          try clear qi2
          try clear c4
          try clear c4b0
          try clear c4b1
          try clear c4b2
          try clear c5
          try clear c6
          try clear c6b0
          try clear c6b1
          try clear c8
          try clear hcz5_0
          try clear hcz7_0
          try clear hfz5_0
          try clear hfz7_0
          try clear hx291_0
          try clear hx291_1
          try clear hx291_2
          try clear hx291_3
          try clear p2
          try clear p291
          try clear q2
          try clear q291
          obtain ⟨x3_2, rfl, HA, HK2, BK290, HB⟩ := hrel
          cases gk with
          | zero => exact absurd HA.out (by simp [monikerref4_Shaped.l0])
          | succ k2 =>
            have H := HA.out
            clear HA
            simp only [monikerref4_Shaped.l0] at H
            by_cases c9 : x3_2 < (l0_0.length : Int)
            · rw [if_pos c9] at H
              have c9b0 : decide (x3_2 < (l0_0.length : Int)) = true := decide_eq_true c9
              clear c9
              replace H := Option.bind_eq_some_iff.mp H
              obtain ⟨⟨t292, t295⟩, A100, H⟩ := H
              replace H : (if t295 = true then (if 0 ≤ x3_2 then (if (wrap64 ((rd_T47 l0_0 x3_2).f0)) ≥ 58 then (some false) else (monikerref4_Shaped.l0 k2 (wrap64 (x3_2 + 1)) l0_0)) else (none)) else (some false)) = some r := H
              have A10 := Aside0.mk A100
              clear A100
              by_cases c11 : t295 = true
              · subst c11
                have H1 : (if 0 ≤ x3_2 then (if (wrap64 ((rd_T47 l0_0 x3_2).f0)) ≥ 58 then (some false) else (monikerref4_Shaped.l0 k2 (wrap64 (x3_2 + 1)) l0_0)) else (none)) = some r := by rw [if_pos rfl] at H; exact H
                clear H
                have H := H1
                clear H1
                by_cases c12 : 0 ≤ x3_2
                · rw [if_pos c12] at H
                  have c12b0 : decide (0 ≤ x3_2) = true := decide_eq_true c12
                  clear c12
                  by_cases c13 : (wrap64 ((rd_T47 l0_0 x3_2).f0)) ≥ 58
                  · rw [if_pos c13] at H
                    have c13b0 : decide (58 ≤ (wrap64 ((rd_T47 l0_0 x3_2).f0))) = true := decide_eq_true c13
                    clear c13
                    obtain rfl := Option.some.inj H
                    have hcz14_0 : wr.cell? ⟨gb290, 0, none⟩ = some (.slice A0_0 l0_0.length c0_0) := (blk_cell BK290.out 0).trans rfl
                    have hfz14_0 := blk_frozen BK290.out 0
                    go_wp2_with (first | (go_at_call 36; (with_reducible refine (monikerref4_Kids.calls k2 _ _ l0_0 x3_2 t292 true _ ?side1 ?side2 A10.out).mono ?_); (case side1 => repeat (first | exact (Kd.C_below HR0_0.out HB.out) | (with_reducible refine Kd.C_alloc ?_ _) | (with_reducible refine Kd.C_drewN ?_ _) | (with_reducible refine Kd.C_drew ?_))); (case side2 => exact HC0_0.out); rintro e w15 ⟨v293, rfl, ho0, hb⟩; have n0_ := Aside0.mk (Kd.R_lower ho0 (below_size (by repeat (first | (with_reducible first | exact HB.out | apply below_alloc | apply pw_below_drewN | apply below_drew1 | refine below_set ?_ GE290.out) | exact HB.out)))); have n1_ := Aside0.mk (blk_below (g := gb290) (o := .cells #[.slice A0_0 l0_0.length c0_0] 25 (0, 0)) (by (with_reducible repeat (first | refine blk_drewN ?_ _ | refine blk_drew ?_ | refine blk_alloc ?_ _)); exact BK290.out) hb); have n2_ := Aside0.mk (below_step (by repeat (first | (with_reducible first | exact HB.out | apply below_alloc | apply pw_below_drewN | apply below_drew1 | refine below_set ?_ GE290.out) | exact HB.out)) hb); clear BK290; clear HB; have HO294 := n0_; have BK290 := n1_; have HB := n2_; clear n0_ n1_ n2_; (try clear hb); (try clear hb2); (try clear hk); (try clear hi); (try clear ho0); have hcz16_0 : w15.cell? ⟨gb290, 0, none⟩ = some (.slice A0_0 l0_0.length c0_0) := (blk_cell BK290.out 0).trans rfl; have hfz16_0 := blk_frozen BK290.out 0; have p296 : 0 ≤ (x3_2 : Int) := of_decide_eq_true (by first | (with_reducible assumption) | assumption); have q296 : x3_2 < (l0_0.length : Int) := of_decide_eq_true (by first | (with_reducible assumption) | assumption); obtain ⟨ad296, e296, hx296_0, hx296_1, hx296_2, hx296_3⟩ := at_T47 HR0_0.out x3_2 p296 q296; cases e296; replace hx296_0 := (HB.out.cell (World.block_lt_of_cell? w _ hx296_0)).trans hx296_0; replace hx296_1 := (HB.out.cell (World.block_lt_of_cell? w _ hx296_1)).trans hx296_1; replace hx296_2 := (HB.out.cell (World.block_lt_of_cell? w _ hx296_2)).trans hx296_2; replace hx296_3 := (HB.out.cell (World.block_lt_of_cell? w _ hx296_3)).trans hx296_3; replace p296 := eq_true p296; replace q296 := eq_true q296))
                    repeat (go_quiet (first | (go_at_call 36; (with_reducible refine (monikerref4_Kids.calls k2 _ _ l0_0 x3_2 t292 true _ ?side1 ?side2 A10.out).mono ?_); (case side1 => repeat (first | exact (Kd.C_below HR0_0.out HB.out) | (with_reducible refine Kd.C_alloc ?_ _) | (with_reducible refine Kd.C_drewN ?_ _) | (with_reducible refine Kd.C_drew ?_))); (case side2 => exact HC0_0.out); rintro e w15 ⟨v293, rfl, ho0, hb⟩; have n0_ := Aside0.mk (Kd.R_lower ho0 (below_size (by repeat (first | (with_reducible first | exact HB.out | apply below_alloc | apply pw_below_drewN | apply below_drew1 | refine below_set ?_ GE290.out) | exact HB.out)))); have n1_ := Aside0.mk (blk_below (g := gb290) (o := .cells #[.slice A0_0 l0_0.length c0_0] 25 (0, 0)) (by (with_reducible repeat (first | refine blk_drewN ?_ _ | refine blk_drew ?_ | refine blk_alloc ?_ _)); exact BK290.out) hb); have n2_ := Aside0.mk (below_step (by repeat (first | (with_reducible first | exact HB.out | apply below_alloc | apply pw_below_drewN | apply below_drew1 | refine below_set ?_ GE290.out) | exact HB.out)) hb); clear BK290; clear HB; have HO294 := n0_; have BK290 := n1_; have HB := n2_; clear n0_ n1_ n2_; (try clear hb); (try clear hb2); (try clear hk); (try clear hi); (try clear ho0); have hcz16_0 : w15.cell? ⟨gb290, 0, none⟩ = some (.slice A0_0 l0_0.length c0_0) := (blk_cell BK290.out 0).trans rfl; have hfz16_0 := blk_frozen BK290.out 0; have p296 : 0 ≤ (x3_2 : Int) := of_decide_eq_true (by first | (with_reducible assumption) | assumption); have q296 : x3_2 < (l0_0.length : Int) := of_decide_eq_true (by first | (with_reducible assumption) | assumption); obtain ⟨ad296, e296, hx296_0, hx296_1, hx296_2, hx296_3⟩ := at_T47 HR0_0.out x3_2 p296 q296; cases e296; replace hx296_0 := (HB.out.cell (World.block_lt_of_cell? w _ hx296_0)).trans hx296_0; replace hx296_1 := (HB.out.cell (World.block_lt_of_cell? w _ hx296_1)).trans hx296_1; replace hx296_2 := (HB.out.cell (World.block_lt_of_cell? w _ hx296_2)).trans hx296_2; replace hx296_3 := (HB.out.cell (World.block_lt_of_cell? w _ hx296_3)).trans hx296_3; replace p296 := eq_true p296; replace q296 := eq_true q296)); try go_wp2_with (first | (go_at_call 36; (with_reducible refine (monikerref4_Kids.calls k2 _ _ l0_0 x3_2 t292 true _ ?side1 ?side2 A10.out).mono ?_); (case side1 => repeat (first | exact (Kd.C_below HR0_0.out HB.out) | (with_reducible refine Kd.C_alloc ?_ _) | (with_reducible refine Kd.C_drewN ?_ _) | (with_reducible refine Kd.C_drew ?_))); (case side2 => exact HC0_0.out); rintro e w15 ⟨v293, rfl, ho0, hb⟩; have n0_ := Aside0.mk (Kd.R_lower ho0 (below_size (by repeat (first | (with_reducible first | exact HB.out | apply below_alloc | apply pw_below_drewN | apply below_drew1 | refine below_set ?_ GE290.out) | exact HB.out)))); have n1_ := Aside0.mk (blk_below (g := gb290) (o := .cells #[.slice A0_0 l0_0.length c0_0] 25 (0, 0)) (by (with_reducible repeat (first | refine blk_drewN ?_ _ | refine blk_drew ?_ | refine blk_alloc ?_ _)); exact BK290.out) hb); have n2_ := Aside0.mk (below_step (by repeat (first | (with_reducible first | exact HB.out | apply below_alloc | apply pw_below_drewN | apply below_drew1 | refine below_set ?_ GE290.out) | exact HB.out)) hb); clear BK290; clear HB; have HO294 := n0_; have BK290 := n1_; have HB := n2_; clear n0_ n1_ n2_; (try clear hb); (try clear hb2); (try clear hk); (try clear hi); (try clear ho0); have hcz16_0 : w15.cell? ⟨gb290, 0, none⟩ = some (.slice A0_0 l0_0.length c0_0) := (blk_cell BK290.out 0).trans rfl; have hfz16_0 := blk_frozen BK290.out 0; have p296 : 0 ≤ (x3_2 : Int) := of_decide_eq_true (by first | (with_reducible assumption) | assumption); have q296 : x3_2 < (l0_0.length : Int) := of_decide_eq_true (by first | (with_reducible assumption) | assumption); obtain ⟨ad296, e296, hx296_0, hx296_1, hx296_2, hx296_3⟩ := at_T47 HR0_0.out x3_2 p296 q296; cases e296; replace hx296_0 := (HB.out.cell (World.block_lt_of_cell? w _ hx296_0)).trans hx296_0; replace hx296_1 := (HB.out.cell (World.block_lt_of_cell? w _ hx296_1)).trans hx296_1; replace hx296_2 := (HB.out.cell (World.block_lt_of_cell? w _ hx296_2)).trans hx296_2; replace hx296_3 := (HB.out.cell (World.block_lt_of_cell? w _ hx296_3)).trans hx296_3; replace p296 := eq_true p296; replace q296 := eq_true q296)))
                    go_ret
                    exact ⟨by first | rfl | (simp [errW_none, errW_some] <;> rfl) | (simp [*, errW_none, errW_some] <;> rfl), by repeat (first | (with_reducible first | exact HB.out | apply below_alloc | apply pw_below_drewN | apply below_drew1 | refine below_set ?_ GE290.out) | exact HB.out)⟩
                  · rw [if_neg c13] at H
                    have c13b0 : decide (58 ≤ (wrap64 ((rd_T47 l0_0 x3_2).f0))) = false := decide_eq_false c13
                    clear c13
                    have H' := Aside0.mk H
                    clear H
                    have hcz17_0 : wr.cell? ⟨gb290, 0, none⟩ = some (.slice A0_0 l0_0.length c0_0) := (blk_cell BK290.out 0).trans rfl
                    have hfz17_0 := blk_frozen BK290.out 0
                    go_wp2_with (first | (go_at_call 36; (with_reducible refine (monikerref4_Kids.calls k2 _ _ l0_0 x3_2 t292 true _ ?side1 ?side2 A10.out).mono ?_); (case side1 => repeat (first | exact (Kd.C_below HR0_0.out HB.out) | (with_reducible refine Kd.C_alloc ?_ _) | (with_reducible refine Kd.C_drewN ?_ _) | (with_reducible refine Kd.C_drew ?_))); (case side2 => exact HC0_0.out); rintro e w18 ⟨v293, rfl, ho0, hb⟩; have n0_ := Aside0.mk (Kd.R_lower ho0 (below_size (by repeat (first | (with_reducible first | exact HB.out | apply below_alloc | apply pw_below_drewN | apply below_drew1 | refine below_set ?_ GE290.out) | exact HB.out)))); have n1_ := Aside0.mk (blk_below (g := gb290) (o := .cells #[.slice A0_0 l0_0.length c0_0] 25 (0, 0)) (by (with_reducible repeat (first | refine blk_drewN ?_ _ | refine blk_drew ?_ | refine blk_alloc ?_ _)); exact BK290.out) hb); have n2_ := Aside0.mk (below_step (by repeat (first | (with_reducible first | exact HB.out | apply below_alloc | apply pw_below_drewN | apply below_drew1 | refine below_set ?_ GE290.out) | exact HB.out)) hb); clear BK290; clear HB; have HO294 := n0_; have BK290 := n1_; have HB := n2_; clear n0_ n1_ n2_; (try clear hb); (try clear hb2); (try clear hk); (try clear hi); (try clear ho0); have hcz19_0 : w18.cell? ⟨gb290, 0, none⟩ = some (.slice A0_0 l0_0.length c0_0) := (blk_cell BK290.out 0).trans rfl; have hfz19_0 := blk_frozen BK290.out 0; have p296 : 0 ≤ (x3_2 : Int) := of_decide_eq_true (by first | (with_reducible assumption) | assumption); have q296 : x3_2 < (l0_0.length : Int) := of_decide_eq_true (by first | (with_reducible assumption) | assumption); obtain ⟨ad296, e296, hx296_0, hx296_1, hx296_2, hx296_3⟩ := at_T47 HR0_0.out x3_2 p296 q296; cases e296; replace hx296_0 := (HB.out.cell (World.block_lt_of_cell? w _ hx296_0)).trans hx296_0; replace hx296_1 := (HB.out.cell (World.block_lt_of_cell? w _ hx296_1)).trans hx296_1; replace hx296_2 := (HB.out.cell (World.block_lt_of_cell? w _ hx296_2)).trans hx296_2; replace hx296_3 := (HB.out.cell (World.block_lt_of_cell? w _ hx296_3)).trans hx296_3; replace p296 := eq_true p296; replace q296 := eq_true q296))
                    repeat (go_quiet (first | (go_at_call 36; (with_reducible refine (monikerref4_Kids.calls k2 _ _ l0_0 x3_2 t292 true _ ?side1 ?side2 A10.out).mono ?_); (case side1 => repeat (first | exact (Kd.C_below HR0_0.out HB.out) | (with_reducible refine Kd.C_alloc ?_ _) | (with_reducible refine Kd.C_drewN ?_ _) | (with_reducible refine Kd.C_drew ?_))); (case side2 => exact HC0_0.out); rintro e w18 ⟨v293, rfl, ho0, hb⟩; have n0_ := Aside0.mk (Kd.R_lower ho0 (below_size (by repeat (first | (with_reducible first | exact HB.out | apply below_alloc | apply pw_below_drewN | apply below_drew1 | refine below_set ?_ GE290.out) | exact HB.out)))); have n1_ := Aside0.mk (blk_below (g := gb290) (o := .cells #[.slice A0_0 l0_0.length c0_0] 25 (0, 0)) (by (with_reducible repeat (first | refine blk_drewN ?_ _ | refine blk_drew ?_ | refine blk_alloc ?_ _)); exact BK290.out) hb); have n2_ := Aside0.mk (below_step (by repeat (first | (with_reducible first | exact HB.out | apply below_alloc | apply pw_below_drewN | apply below_drew1 | refine below_set ?_ GE290.out) | exact HB.out)) hb); clear BK290; clear HB; have HO294 := n0_; have BK290 := n1_; have HB := n2_; clear n0_ n1_ n2_; (try clear hb); (try clear hb2); (try clear hk); (try clear hi); (try clear ho0); have hcz19_0 : w18.cell? ⟨gb290, 0, none⟩ = some (.slice A0_0 l0_0.length c0_0) := (blk_cell BK290.out 0).trans rfl; have hfz19_0 := blk_frozen BK290.out 0; have p296 : 0 ≤ (x3_2 : Int) := of_decide_eq_true (by first | (with_reducible assumption) | assumption); have q296 : x3_2 < (l0_0.length : Int) := of_decide_eq_true (by first | (with_reducible assumption) | assumption); obtain ⟨ad296, e296, hx296_0, hx296_1, hx296_2, hx296_3⟩ := at_T47 HR0_0.out x3_2 p296 q296; cases e296; replace hx296_0 := (HB.out.cell (World.block_lt_of_cell? w _ hx296_0)).trans hx296_0; replace hx296_1 := (HB.out.cell (World.block_lt_of_cell? w _ hx296_1)).trans hx296_1; replace hx296_2 := (HB.out.cell (World.block_lt_of_cell? w _ hx296_2)).trans hx296_2; replace hx296_3 := (HB.out.cell (World.block_lt_of_cell? w _ hx296_3)).trans hx296_3; replace p296 := eq_true p296; replace q296 := eq_true q296)); try go_wp2_with (first | (go_at_call 36; (with_reducible refine (monikerref4_Kids.calls k2 _ _ l0_0 x3_2 t292 true _ ?side1 ?side2 A10.out).mono ?_); (case side1 => repeat (first | exact (Kd.C_below HR0_0.out HB.out) | (with_reducible refine Kd.C_alloc ?_ _) | (with_reducible refine Kd.C_drewN ?_ _) | (with_reducible refine Kd.C_drew ?_))); (case side2 => exact HC0_0.out); rintro e w18 ⟨v293, rfl, ho0, hb⟩; have n0_ := Aside0.mk (Kd.R_lower ho0 (below_size (by repeat (first | (with_reducible first | exact HB.out | apply below_alloc | apply pw_below_drewN | apply below_drew1 | refine below_set ?_ GE290.out) | exact HB.out)))); have n1_ := Aside0.mk (blk_below (g := gb290) (o := .cells #[.slice A0_0 l0_0.length c0_0] 25 (0, 0)) (by (with_reducible repeat (first | refine blk_drewN ?_ _ | refine blk_drew ?_ | refine blk_alloc ?_ _)); exact BK290.out) hb); have n2_ := Aside0.mk (below_step (by repeat (first | (with_reducible first | exact HB.out | apply below_alloc | apply pw_below_drewN | apply below_drew1 | refine below_set ?_ GE290.out) | exact HB.out)) hb); clear BK290; clear HB; have HO294 := n0_; have BK290 := n1_; have HB := n2_; clear n0_ n1_ n2_; (try clear hb); (try clear hb2); (try clear hk); (try clear hi); (try clear ho0); have hcz19_0 : w18.cell? ⟨gb290, 0, none⟩ = some (.slice A0_0 l0_0.length c0_0) := (blk_cell BK290.out 0).trans rfl; have hfz19_0 := blk_frozen BK290.out 0; have p296 : 0 ≤ (x3_2 : Int) := of_decide_eq_true (by first | (with_reducible assumption) | assumption); have q296 : x3_2 < (l0_0.length : Int) := of_decide_eq_true (by first | (with_reducible assumption) | assumption); obtain ⟨ad296, e296, hx296_0, hx296_1, hx296_2, hx296_3⟩ := at_T47 HR0_0.out x3_2 p296 q296; cases e296; replace hx296_0 := (HB.out.cell (World.block_lt_of_cell? w _ hx296_0)).trans hx296_0; replace hx296_1 := (HB.out.cell (World.block_lt_of_cell? w _ hx296_1)).trans hx296_1; replace hx296_2 := (HB.out.cell (World.block_lt_of_cell? w _ hx296_2)).trans hx296_2; replace hx296_3 := (HB.out.cell (World.block_lt_of_cell? w _ hx296_3)).trans hx296_3; replace p296 := eq_true p296; replace q296 := eq_true q296)))
                    go_roundg k2
                    case measure => have := HJ1.out; have := HK2.out; omega
                    case rel => exact ⟨(wrap64 (x3_2 + 1)), (by first | rfl | (simp; done) | (simp [*]; done)), H', ⟨by have := HJ1.out; have := HK2.out; omega⟩, ⟨by (with_reducible repeat (first | refine blk_drewN ?_ _ | refine blk_drew ?_ | refine blk_alloc ?_ _)); exact BK290.out⟩, ⟨by repeat (first | (with_reducible first | exact HB.out | apply below_alloc | apply pw_below_drewN | apply below_drew1 | refine below_set ?_ GE290.out) | exact HB.out)⟩⟩
                · rw [if_neg c12] at H
                  exact absurd H (by simp)
              · replace c11 := Bool.eq_false_iff.mpr c11
                subst c11
                have H1 : (some false) = some r := by rw [if_neg (show ¬ (false = true) by decide)] at H; exact H
                clear H
                have H := H1
                clear H1
                obtain rfl := Option.some.inj H
                have hcz20_0 : wr.cell? ⟨gb290, 0, none⟩ = some (.slice A0_0 l0_0.length c0_0) := (blk_cell BK290.out 0).trans rfl
                have hfz20_0 := blk_frozen BK290.out 0
                go_wp2_with (first | (go_at_call 36; (with_reducible refine (monikerref4_Kids.calls k2 _ _ l0_0 x3_2 t292 false _ ?side1 ?side2 A10.out).mono ?_); (case side1 => repeat (first | exact (Kd.C_below HR0_0.out HB.out) | (with_reducible refine Kd.C_alloc ?_ _) | (with_reducible refine Kd.C_drewN ?_ _) | (with_reducible refine Kd.C_drew ?_))); (case side2 => exact HC0_0.out); rintro e w21 ⟨v293, rfl, ho0, hb⟩; have n0_ := Aside0.mk (Kd.R_lower ho0 (below_size (by repeat (first | (with_reducible first | exact HB.out | apply below_alloc | apply pw_below_drewN | apply below_drew1 | refine below_set ?_ GE290.out) | exact HB.out)))); have n1_ := Aside0.mk (blk_below (g := gb290) (o := .cells #[.slice A0_0 l0_0.length c0_0] 25 (0, 0)) (by (with_reducible repeat (first | refine blk_drewN ?_ _ | refine blk_drew ?_ | refine blk_alloc ?_ _)); exact BK290.out) hb); have n2_ := Aside0.mk (below_step (by repeat (first | (with_reducible first | exact HB.out | apply below_alloc | apply pw_below_drewN | apply below_drew1 | refine below_set ?_ GE290.out) | exact HB.out)) hb); clear BK290; clear HB; have HO294 := n0_; have BK290 := n1_; have HB := n2_; clear n0_ n1_ n2_; (try clear hb); (try clear hb2); (try clear hk); (try clear hi); (try clear ho0)))
                repeat (go_quiet (first | (go_at_call 36; (with_reducible refine (monikerref4_Kids.calls k2 _ _ l0_0 x3_2 t292 false _ ?side1 ?side2 A10.out).mono ?_); (case side1 => repeat (first | exact (Kd.C_below HR0_0.out HB.out) | (with_reducible refine Kd.C_alloc ?_ _) | (with_reducible refine Kd.C_drewN ?_ _) | (with_reducible refine Kd.C_drew ?_))); (case side2 => exact HC0_0.out); rintro e w21 ⟨v293, rfl, ho0, hb⟩; have n0_ := Aside0.mk (Kd.R_lower ho0 (below_size (by repeat (first | (with_reducible first | exact HB.out | apply below_alloc | apply pw_below_drewN | apply below_drew1 | refine below_set ?_ GE290.out) | exact HB.out)))); have n1_ := Aside0.mk (blk_below (g := gb290) (o := .cells #[.slice A0_0 l0_0.length c0_0] 25 (0, 0)) (by (with_reducible repeat (first | refine blk_drewN ?_ _ | refine blk_drew ?_ | refine blk_alloc ?_ _)); exact BK290.out) hb); have n2_ := Aside0.mk (below_step (by repeat (first | (with_reducible first | exact HB.out | apply below_alloc | apply pw_below_drewN | apply below_drew1 | refine below_set ?_ GE290.out) | exact HB.out)) hb); clear BK290; clear HB; have HO294 := n0_; have BK290 := n1_; have HB := n2_; clear n0_ n1_ n2_; (try clear hb); (try clear hb2); (try clear hk); (try clear hi); (try clear ho0))); try go_wp2_with (first | (go_at_call 36; (with_reducible refine (monikerref4_Kids.calls k2 _ _ l0_0 x3_2 t292 false _ ?side1 ?side2 A10.out).mono ?_); (case side1 => repeat (first | exact (Kd.C_below HR0_0.out HB.out) | (with_reducible refine Kd.C_alloc ?_ _) | (with_reducible refine Kd.C_drewN ?_ _) | (with_reducible refine Kd.C_drew ?_))); (case side2 => exact HC0_0.out); rintro e w21 ⟨v293, rfl, ho0, hb⟩; have n0_ := Aside0.mk (Kd.R_lower ho0 (below_size (by repeat (first | (with_reducible first | exact HB.out | apply below_alloc | apply pw_below_drewN | apply below_drew1 | refine below_set ?_ GE290.out) | exact HB.out)))); have n1_ := Aside0.mk (blk_below (g := gb290) (o := .cells #[.slice A0_0 l0_0.length c0_0] 25 (0, 0)) (by (with_reducible repeat (first | refine blk_drewN ?_ _ | refine blk_drew ?_ | refine blk_alloc ?_ _)); exact BK290.out) hb); have n2_ := Aside0.mk (below_step (by repeat (first | (with_reducible first | exact HB.out | apply below_alloc | apply pw_below_drewN | apply below_drew1 | refine below_set ?_ GE290.out) | exact HB.out)) hb); clear BK290; clear HB; have HO294 := n0_; have BK290 := n1_; have HB := n2_; clear n0_ n1_ n2_; (try clear hb); (try clear hb2); (try clear hk); (try clear hi); (try clear ho0))))
                go_ret
                exact ⟨by first | rfl | (simp [errW_none, errW_some] <;> rfl) | (simp [*, errW_none, errW_some] <;> rfl), by repeat (first | (with_reducible first | exact HB.out | apply below_alloc | apply pw_below_drewN | apply below_drew1 | refine below_set ?_ GE290.out) | exact HB.out)⟩
            · rw [if_neg c9] at H
              have c9b0 : decide (x3_2 < (l0_0.length : Int)) = false := decide_eq_false c9
              clear c9
              obtain rfl := Option.some.inj H
              have hcz22_0 : wr.cell? ⟨gb290, 0, none⟩ = some (.slice A0_0 l0_0.length c0_0) := (blk_cell BK290.out 0).trans rfl
              have hfz22_0 := blk_frozen BK290.out 0
              go_wp2
              repeat (go_quiet (fail); try go_wp2)
              go_ret
              exact ⟨by first | rfl | (simp [errW_none, errW_some] <;> rfl) | (simp [*, errW_none, errW_some] <;> rfl), by repeat (first | (with_reducible first | exact HB.out | apply below_alloc | apply pw_below_drewN | apply below_drew1 | refine below_set ?_ GE290.out) | exact HB.out)⟩

end Go.Proofs.Ytodldpdnhcafpaa.F
