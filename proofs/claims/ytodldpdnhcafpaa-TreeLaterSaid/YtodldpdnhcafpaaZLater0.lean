/- The law TreeLater of package monikerlaw holds of the given program: called with any arguments that can be read as data it returns true, and its arguments read behind the call as before. Conditions: those of the given row, no others. -/
import Derived.Test.YtodldpdnhcafpaaProg
import Derived.Below
import Derived.Deep.Draws
import Derived.Deep.AppendLies
import Derived.Maps.AppendAt
import Derived.OwnWalk
import Derived.Laws.BytesArg
import Derived.Laws.MakeOwn
import Derived.Laws.OwnMore
import Derived.Deep.OwnRows
import Derived.Tactics
import Derived.Lib.ConvBytes
import Derived.Laws.Slices
import Derived.WalkKit
import Derived.KernelRfl
import Derived.RowKit3
import Derived.Deep.LoopGhost
import Derived.Deep.QuietTactic
import Derived.BigQuiet
import Derived.WideLaws
import Derived.Deep.DeepCutAuto
import Derived.Deep.CutBlock
import Derived.Deep.RegionHeld3
import Derived.Laws.Rows
import Derived.Lib.AppendStr
import Derived.ArgAppend
import Derived.Laws.IdiomCopy
import Derived.OrdersHeld
import Derived.Laws.BitsLemmas
import Derived.WalkMore
import Derived.RowKit
import Derived.Test.YtodldpdnhcafpaaWWords
import Derived.Test.YtodldpdnhcafpaaWLast
import Derived.Test.YtodldpdnhcafpaaWTab
import Derived.Test.YtodldpdnhcafpaaWFour
import Derived.Test.YtodldpdnhcafpaaWQPut
import Derived.Test.YtodldpdnhcafpaaWApart
import Derived.Test.YtodldpdnhcafpaaWArr
import Derived.Test.YtodldpdnhcafpaaWZeros
import Derived.Test.YtodldpdnhcafpaaWFoot
import Derived.Test.YtodldpdnhcafpaaWKept
import Derived.Test.YtodldpdnhcafpaaWShare
import Derived.Test.YtodldpdnhcafpaaWN
import Derived.Test.YtodldpdnhcafpaaWFootNe
import Derived.Test.YtodldpdnhcafpaaWAt
import Derived.Test.YtodldpdnhcafpaaWEqStruct
import Derived.Test.YtodldpdnhcafpaaWRepsOne
import Derived.Test.YtodldpdnhcafpaaWInv
import Derived.Test.YtodldpdnhcafpaaWInvWords
import Derived.Test.YtodldpdnhcafpaaWGuard
import Derived.Test.YtodldpdnhcafpaaWNEv
import Derived.Test.YtodldpdnhcafpaaWMore
import Derived.RangeFuncNested
import Derived.RangeFuncBound
import Derived.RangeFuncCalls
import Derived.RangeFuncLeaves
import Derived.RangeFuncBox
import Derived.Shelf.Abstract
import Derived.Shelf.RegionOpen
import Derived.OwnWalkIn
import Derived.TacticsInMore
import Derived.LoopNIn
import Derived.LoopIn
import Derived.OrdersIn
import Derived.StillTailTactics
import Derived.BigRegion
import Derived.SizedLaws
import Derived.ChangeSlices
import Derived.Deep.Slices
import Derived.ChangeArms
import Derived.Test.YtodldpdnhcafpaaRows
import Derived.ProofKit
import Derived.OpenShut
import Derived.ShutString
import Derived.ChangeOld
-- A text of this session's own program (wip/myprint.sh over a changed print tool): functions and their walks
namespace Go.Proofs.Ytodldpdnhcafpaa.F
open Go.RowKit Go.Proofs.YtodldpdnhcafpaaW.PrintWords Go.Proofs.YtodldpdnhcafpaaW.PrintLast Go.Proofs.YtodldpdnhcafpaaW.PrintMore
attribute [local go_sem] max2_int min2_int max_two min_two max_three min_three max_four min_four   -- for this text's walks alone
set_option linter.unusedVariables false
set_option linter.unusedSimpArgs false



def errW : Option Int → Value
  | none => .nilIface
  | some c => .iface 0 (.int .i64 c)
theorem errW_none : errW none = .nilIface := rfl
theorem errW_some (c : Int) : errW (some c) = .iface 0 (.int .i64 c) := rfl

theorem info3 : (Try.prog.info? 3).map (fun i => (i.zero, i.size, i.bytes)) = some (some (.int .i64 0), 1, 8) := by kernel_rfl
theorem info47 : (Try.prog.info? 47).map (fun i => (i.zero, i.size, i.bytes)) = some (some (.agg #[(.int .u8 0), (.int .i64 0), (.int .i64 0), (.int .i64 0)]), 4, 32) := by kernel_rfl
theorem info61 : (Try.prog.info? 61).map (fun i => (i.zero, i.size, i.bytes)) = some (some (.agg #[(.int .u8 0), (.int .i64 0), (.int .i64 0)]), 3, 24) := by kernel_rfl
-- the values' own types
/-! #### struct type 61 -/
structure S61 where
  f0 : Int
  f1 : Int
  f2 : Int
def k61 : Kd S61 := Kd.iso (Kd.pair (Kd.int .u8) (Kd.pair (Kd.int .i64) (Kd.int .i64))) (fun x : S61 => (x.f0, x.f1, x.f2))
theorem k61_open {w : World} {x : S61} {cs : List Value} (h : k61.K w x cs) : cs = [.int .u8 x.f0, .int .i64 x.f1, .int .i64 x.f2] := by
  obtain ⟨_, _, rfl, rfl, ⟨_, _, rfl, rfl, rfl⟩⟩ := h
  exact rfl
theorem k61_mk (w : World) (x : S61)  : k61.K w x [.int .u8 x.f0, .int .i64 x.f1, .int .i64 x.f2] := ⟨[.int .u8 x.f0], [.int .i64 x.f1, .int .i64 x.f2], rfl, rfl, ⟨[.int .i64 x.f1], [.int .i64 x.f2], rfl, rfl, rfl⟩⟩
/-! #### struct type 47 -/
structure S47 where
  f0 : Int
  f1 : Int
  f2 : Int
  f3 : Int
def z47 : S47 := ⟨(0 : Int), (0 : Int), (0 : Int), (0 : Int)⟩
def k47 : Kd S47 := Kd.iso (Kd.pair (Kd.int .u8) (Kd.pair (Kd.int .i64) (Kd.pair (Kd.int .i64) (Kd.int .i64)))) (fun x : S47 => (x.f0, x.f1, x.f2, x.f3))
theorem k47_open {w : World} {x : S47} {cs : List Value} (h : k47.K w x cs) : cs = [.int .u8 x.f0, .int .i64 x.f1, .int .i64 x.f2, .int .i64 x.f3] := by
  obtain ⟨_, _, rfl, rfl, ⟨_, _, rfl, rfl, ⟨_, _, rfl, rfl, rfl⟩⟩⟩ := h
  exact rfl
theorem k47_openM {w : World} {base : Nat} {ok : Nat → Prop} {x : S47} {cs : List Value} (h : k47.M w base ok x cs) : cs = [.int .u8 x.f0, .int .i64 x.f1, .int .i64 x.f2, .int .i64 x.f3] := by
  obtain ⟨_, _, rfl, rfl, ⟨_, _, rfl, rfl, ⟨_, _, rfl, rfl, rfl⟩⟩⟩ := h
  exact rfl
theorem k47_mk (w : World) (x : S47)  : k47.K w x [.int .u8 x.f0, .int .i64 x.f1, .int .i64 x.f2, .int .i64 x.f3] := ⟨[.int .u8 x.f0], [.int .i64 x.f1, .int .i64 x.f2, .int .i64 x.f3], rfl, rfl, ⟨[.int .i64 x.f1], [.int .i64 x.f2, .int .i64 x.f3], rfl, rfl, ⟨[.int .i64 x.f2], [.int .i64 x.f3], rfl, rfl, rfl⟩⟩⟩
theorem k47_mkM (w : World) (base : Nat) (ok : Nat → Prop) (x : S47)  : k47.M w base ok x [.int .u8 x.f0, .int .i64 x.f1, .int .i64 x.f2, .int .i64 x.f3] := ⟨[.int .u8 x.f0], [.int .i64 x.f1, .int .i64 x.f2, .int .i64 x.f3], rfl, rfl, ⟨[.int .i64 x.f1], [.int .i64 x.f2, .int .i64 x.f3], rfl, rfl, ⟨[.int .i64 x.f2], [.int .i64 x.f3], rfl, rfl, rfl⟩⟩⟩
def rd_T47 (xs : List S47) (i : Int) : S47 := xs.getD i.toNat z47
theorem at_T47 {w : World} {A : Option Addr} {n : Nat} {xs : List S47} (h : Kd.C k47 w A n xs) (i : Int) (h0 : 0 ≤ i) (h1 : i < n) : ∃ ad , A = some ad ∧ w.cell? (ad.add (i.toNat * 4)) = some (.int .u8 (rd_T47 xs i).f0) ∧ w.cell? ⟨(ad.add (i.toNat * 4)).block, (ad.add (i.toNat * 4)).off + 1, none⟩ = some (.int .i64 (rd_T47 xs i).f1) ∧ w.cell? ⟨(ad.add (i.toNat * 4)).block, (ad.add (i.toNat * 4)).off + 2, none⟩ = some (.int .i64 (rd_T47 xs i).f2) ∧ w.cell? ⟨(ad.add (i.toNat * 4)).block, (ad.add (i.toNat * 4)).off + 3, none⟩ = some (.int .i64 (rd_T47 xs i).f3) := by
  obtain ⟨ad, c, e, _, hK, hc0⟩ := Kd.C_get h z47 i h0 h1
  have hc : ∀ j u, c[j]? = some u → w.cell? (ad.add (i.toNat * 4 + j)) = some u := hc0
  obtain rfl := k47_open hK
  exact ⟨ad, e, hc 0 _ rfl, by rw [← add_field _ _ 1 (by omega)]; exact hc 1 _ rfl, by rw [← add_field _ _ 2 (by omega)]; exact hc 2 _ rfl, by rw [← add_field _ _ 3 (by omega)]; exact hc 3 _ rfl⟩

end Go.Proofs.Ytodldpdnhcafpaa.F

-- A text of this session's own program (wip/myprint.sh over a changed print tool): functions and their walks
namespace Go.Proofs.Ytodldpdnhcafpaa.F
open Go.RowKit Go.Proofs.YtodldpdnhcafpaaW.PrintWords Go.Proofs.YtodldpdnhcafpaaW.PrintLast Go.Proofs.YtodldpdnhcafpaaW.PrintMore
attribute [local go_sem] max2_int min2_int max_two min_two max_three min_three max_four min_four   -- for this text's walks alone
set_option linter.unusedVariables false
set_option linter.unusedSimpArgs false

/-! ### tree_sized: function 51 -/
def tree_sized.f (l0_0 : List (S47)) (a1 : Int) : Option (Bool) := if a1 ≥ 0 then (if a1 < (l0_0.length : Int) then (if 0 ≤ a1 then (if ((rd_T47 l0_0 a1).f3) ≥ 1 then (some (decide (((rd_T47 l0_0 a1).f3) ≤ (wrap64 ((l0_0.length : Int) - a1))))) else (some false)) else (none)) else (some false)) else (some false)
set_option maxHeartbeats 8000000 in
set_option maxRecDepth 100000 in
theorem tree_sized.calls (A0_0 : Option Addr) (c0_0 : Nat) (l0_0 : List (S47)) (a1 : Int) (r : Bool) (w : World) (hr0_0 : Kd.C k47 w A0_0 l0_0.length l0_0) (hc0_0 : l0_0.length ≤ c0_0) (h : tree_sized.f l0_0 a1 = some r) :
    Calls Try.prog 51 #[.agg #[.slice A0_0 l0_0.length c0_0], .int .i64 a1] w fun e w' => e = .returned (.bool r) ∧ Below w.heap.size w w' := by
  have hu25 := Try.underlying25
  have HR0_0 := Aside0.mk hr0_0
  have HC0_0 := Aside0.mk hc0_0
  clear hr0_0 hc0_0
  have HB := Aside0.mk (Below.refl w.heap.size w)
  have H : (if a1 ≥ 0 then (if a1 < (l0_0.length : Int) then (if 0 ≤ a1 then (if ((rd_T47 l0_0 a1).f3) ≥ 1 then (some (decide (((rd_T47 l0_0 a1).f3) ≤ (wrap64 ((l0_0.length : Int) - a1))))) else (some false)) else (none)) else (some false)) else (some false)) = some r := h
  clear h
  by_cases c3 : a1 ≥ 0
  · rw [if_pos c3] at H
    have c3b0 : decide (0 ≤ a1) = true := decide_eq_true c3
    clear c3
    by_cases c4 : a1 < (l0_0.length : Int)
    · rw [if_pos c4] at H
      have c4b0 : decide (a1 < (l0_0.length : Int)) = true := decide_eq_true c4
      clear c4
      by_cases c5 : 0 ≤ a1
      · rw [if_pos c5] at H
        have c5b0 : decide (0 ≤ a1) = true := decide_eq_true c5
        clear c5
        by_cases c6 : ((rd_T47 l0_0 a1).f3) ≥ 1
        · rw [if_pos c6] at H
          have c6b0 : decide (1 ≤ ((rd_T47 l0_0 a1).f3)) = true := decide_eq_true c6
          clear c6
          obtain rfl := Option.some.inj H
          go_enter Try.func51, Try.ntmps51
          go_wp2_with (first | ((with_reducible refine gate_dst (N := 2) rfl ?_); (try (refine gate_guard (by rfl) ?_; dsimp only)); refine box_event ?hg (N := 2) ?hd (cs := #[.slice A0_0 l0_0.length c0_0]) (t := 25) ?hr ?_; (case hd => rfl); (case hg => rfl); (case hr => first | (go_simp; done) | (go_simp; rfl)); intro gb219 hg w7 hbox hb; have n0_ := Aside0.mk (below_step (by repeat (first | (with_reducible first | exact HB.out | apply below_alloc | apply pw_below_drewN | apply below_drew1) | exact HB.out)) hb); have n1_ := Aside0.mk (hbox); have n2_ := Aside0.mk ((by rw [hg]; exact (below_size (by repeat (first | (with_reducible first | exact HB.out | apply below_alloc | apply pw_below_drewN | apply below_drew1) | exact HB.out))) : w.heap.size ≤ gb219)); have n3_ := Aside0.mk ((by rw [hg]; exact (below_size (by repeat (first | (with_reducible first | exact HB.out | apply below_alloc | apply pw_below_drewN | apply below_drew1) | exact HB.out))) : w.heap.size ≤ gb219)); clear HB; have HB := n0_; have BK219 := n1_; have GW219 := n2_; have GE219 := n3_; clear n0_ n1_ n2_ n3_; clear hb hbox hg; have hcz8_0 : w7.cell? ⟨gb219, 0, none⟩ = some (.slice A0_0 l0_0.length c0_0) := (blk_cell BK219.out 0).trans rfl; have hfz8_0 := blk_frozen BK219.out 0; have p220 : 0 ≤ (a1 : Int) := of_decide_eq_true (by first | (with_reducible assumption) | assumption); have q220 : a1 < (l0_0.length : Int) := of_decide_eq_true (by first | (with_reducible assumption) | assumption); obtain ⟨ad220, e220, hx220_0, hx220_1, hx220_2, hx220_3⟩ := at_T47 HR0_0.out a1 p220 q220; cases e220; replace hx220_0 := (HB.out.cell (World.block_lt_of_cell? w _ hx220_0)).trans hx220_0; replace hx220_1 := (HB.out.cell (World.block_lt_of_cell? w _ hx220_1)).trans hx220_1; replace hx220_2 := (HB.out.cell (World.block_lt_of_cell? w _ hx220_2)).trans hx220_2; replace hx220_3 := (HB.out.cell (World.block_lt_of_cell? w _ hx220_3)).trans hx220_3; replace p220 := eq_true p220; replace q220 := eq_true q220; have p221 : 0 ≤ (a1 : Int) := of_decide_eq_true (by first | (with_reducible assumption) | assumption); have q221 : a1 < (l0_0.length : Int) := of_decide_eq_true (by first | (with_reducible assumption) | assumption); obtain ⟨ad221, e221, hx221_0, hx221_1, hx221_2, hx221_3⟩ := at_T47 HR0_0.out a1 p221 q221; obtain rfl : ad220 = ad221 := (by injection e221); replace hx221_0 := (HB.out.cell (World.block_lt_of_cell? w _ hx221_0)).trans hx221_0; replace hx221_1 := (HB.out.cell (World.block_lt_of_cell? w _ hx221_1)).trans hx221_1; replace hx221_2 := (HB.out.cell (World.block_lt_of_cell? w _ hx221_2)).trans hx221_2; replace hx221_3 := (HB.out.cell (World.block_lt_of_cell? w _ hx221_3)).trans hx221_3; replace p221 := eq_true p221; replace q221 := eq_true q221))
          repeat (go_quiet (first | ((with_reducible refine gate_dst (N := 2) rfl ?_); (try (refine gate_guard (by rfl) ?_; dsimp only)); refine box_event ?hg (N := 2) ?hd (cs := #[.slice A0_0 l0_0.length c0_0]) (t := 25) ?hr ?_; (case hd => rfl); (case hg => rfl); (case hr => first | (go_simp; done) | (go_simp; rfl)); intro gb219 hg w7 hbox hb; have n0_ := Aside0.mk (below_step (by repeat (first | (with_reducible first | exact HB.out | apply below_alloc | apply pw_below_drewN | apply below_drew1) | exact HB.out)) hb); have n1_ := Aside0.mk (hbox); have n2_ := Aside0.mk ((by rw [hg]; exact (below_size (by repeat (first | (with_reducible first | exact HB.out | apply below_alloc | apply pw_below_drewN | apply below_drew1) | exact HB.out))) : w.heap.size ≤ gb219)); have n3_ := Aside0.mk ((by rw [hg]; exact (below_size (by repeat (first | (with_reducible first | exact HB.out | apply below_alloc | apply pw_below_drewN | apply below_drew1) | exact HB.out))) : w.heap.size ≤ gb219)); clear HB; have HB := n0_; have BK219 := n1_; have GW219 := n2_; have GE219 := n3_; clear n0_ n1_ n2_ n3_; clear hb hbox hg; have hcz8_0 : w7.cell? ⟨gb219, 0, none⟩ = some (.slice A0_0 l0_0.length c0_0) := (blk_cell BK219.out 0).trans rfl; have hfz8_0 := blk_frozen BK219.out 0; have p220 : 0 ≤ (a1 : Int) := of_decide_eq_true (by first | (with_reducible assumption) | assumption); have q220 : a1 < (l0_0.length : Int) := of_decide_eq_true (by first | (with_reducible assumption) | assumption); obtain ⟨ad220, e220, hx220_0, hx220_1, hx220_2, hx220_3⟩ := at_T47 HR0_0.out a1 p220 q220; cases e220; replace hx220_0 := (HB.out.cell (World.block_lt_of_cell? w _ hx220_0)).trans hx220_0; replace hx220_1 := (HB.out.cell (World.block_lt_of_cell? w _ hx220_1)).trans hx220_1; replace hx220_2 := (HB.out.cell (World.block_lt_of_cell? w _ hx220_2)).trans hx220_2; replace hx220_3 := (HB.out.cell (World.block_lt_of_cell? w _ hx220_3)).trans hx220_3; replace p220 := eq_true p220; replace q220 := eq_true q220; have p221 : 0 ≤ (a1 : Int) := of_decide_eq_true (by first | (with_reducible assumption) | assumption); have q221 : a1 < (l0_0.length : Int) := of_decide_eq_true (by first | (with_reducible assumption) | assumption); obtain ⟨ad221, e221, hx221_0, hx221_1, hx221_2, hx221_3⟩ := at_T47 HR0_0.out a1 p221 q221; obtain rfl : ad220 = ad221 := (by injection e221); replace hx221_0 := (HB.out.cell (World.block_lt_of_cell? w _ hx221_0)).trans hx221_0; replace hx221_1 := (HB.out.cell (World.block_lt_of_cell? w _ hx221_1)).trans hx221_1; replace hx221_2 := (HB.out.cell (World.block_lt_of_cell? w _ hx221_2)).trans hx221_2; replace hx221_3 := (HB.out.cell (World.block_lt_of_cell? w _ hx221_3)).trans hx221_3; replace p221 := eq_true p221; replace q221 := eq_true q221)); try go_wp2_with (first | ((with_reducible refine gate_dst (N := 2) rfl ?_); (try (refine gate_guard (by rfl) ?_; dsimp only)); refine box_event ?hg (N := 2) ?hd (cs := #[.slice A0_0 l0_0.length c0_0]) (t := 25) ?hr ?_; (case hd => rfl); (case hg => rfl); (case hr => first | (go_simp; done) | (go_simp; rfl)); intro gb219 hg w7 hbox hb; have n0_ := Aside0.mk (below_step (by repeat (first | (with_reducible first | exact HB.out | apply below_alloc | apply pw_below_drewN | apply below_drew1) | exact HB.out)) hb); have n1_ := Aside0.mk (hbox); have n2_ := Aside0.mk ((by rw [hg]; exact (below_size (by repeat (first | (with_reducible first | exact HB.out | apply below_alloc | apply pw_below_drewN | apply below_drew1) | exact HB.out))) : w.heap.size ≤ gb219)); have n3_ := Aside0.mk ((by rw [hg]; exact (below_size (by repeat (first | (with_reducible first | exact HB.out | apply below_alloc | apply pw_below_drewN | apply below_drew1) | exact HB.out))) : w.heap.size ≤ gb219)); clear HB; have HB := n0_; have BK219 := n1_; have GW219 := n2_; have GE219 := n3_; clear n0_ n1_ n2_ n3_; clear hb hbox hg; have hcz8_0 : w7.cell? ⟨gb219, 0, none⟩ = some (.slice A0_0 l0_0.length c0_0) := (blk_cell BK219.out 0).trans rfl; have hfz8_0 := blk_frozen BK219.out 0; have p220 : 0 ≤ (a1 : Int) := of_decide_eq_true (by first | (with_reducible assumption) | assumption); have q220 : a1 < (l0_0.length : Int) := of_decide_eq_true (by first | (with_reducible assumption) | assumption); obtain ⟨ad220, e220, hx220_0, hx220_1, hx220_2, hx220_3⟩ := at_T47 HR0_0.out a1 p220 q220; cases e220; replace hx220_0 := (HB.out.cell (World.block_lt_of_cell? w _ hx220_0)).trans hx220_0; replace hx220_1 := (HB.out.cell (World.block_lt_of_cell? w _ hx220_1)).trans hx220_1; replace hx220_2 := (HB.out.cell (World.block_lt_of_cell? w _ hx220_2)).trans hx220_2; replace hx220_3 := (HB.out.cell (World.block_lt_of_cell? w _ hx220_3)).trans hx220_3; replace p220 := eq_true p220; replace q220 := eq_true q220; have p221 : 0 ≤ (a1 : Int) := of_decide_eq_true (by first | (with_reducible assumption) | assumption); have q221 : a1 < (l0_0.length : Int) := of_decide_eq_true (by first | (with_reducible assumption) | assumption); obtain ⟨ad221, e221, hx221_0, hx221_1, hx221_2, hx221_3⟩ := at_T47 HR0_0.out a1 p221 q221; obtain rfl : ad220 = ad221 := (by injection e221); replace hx221_0 := (HB.out.cell (World.block_lt_of_cell? w _ hx221_0)).trans hx221_0; replace hx221_1 := (HB.out.cell (World.block_lt_of_cell? w _ hx221_1)).trans hx221_1; replace hx221_2 := (HB.out.cell (World.block_lt_of_cell? w _ hx221_2)).trans hx221_2; replace hx221_3 := (HB.out.cell (World.block_lt_of_cell? w _ hx221_3)).trans hx221_3; replace p221 := eq_true p221; replace q221 := eq_true q221)))
          go_ret
          exact ⟨by first | rfl | (simp [errW_none, errW_some] <;> rfl) | (simp [*, errW_none, errW_some] <;> rfl), by repeat (first | (with_reducible first | exact HB.out | apply below_alloc | apply pw_below_drewN | apply below_drew1 | refine below_set ?_ GE219.out) | exact HB.out)⟩
        · rw [if_neg c6] at H
          have c6b0 : decide (1 ≤ ((rd_T47 l0_0 a1).f3)) = false := decide_eq_false c6
          clear c6
          obtain rfl := Option.some.inj H
          go_enter Try.func51, Try.ntmps51
          go_wp2_with (first | ((with_reducible refine gate_dst (N := 2) rfl ?_); (try (refine gate_guard (by rfl) ?_; dsimp only)); refine box_event ?hg (N := 2) ?hd (cs := #[.slice A0_0 l0_0.length c0_0]) (t := 25) ?hr ?_; (case hd => rfl); (case hg => rfl); (case hr => first | (go_simp; done) | (go_simp; rfl)); intro gb219 hg w9 hbox hb; have n0_ := Aside0.mk (below_step (by repeat (first | (with_reducible first | exact HB.out | apply below_alloc | apply pw_below_drewN | apply below_drew1) | exact HB.out)) hb); have n1_ := Aside0.mk (hbox); have n2_ := Aside0.mk ((by rw [hg]; exact (below_size (by repeat (first | (with_reducible first | exact HB.out | apply below_alloc | apply pw_below_drewN | apply below_drew1) | exact HB.out))) : w.heap.size ≤ gb219)); have n3_ := Aside0.mk ((by rw [hg]; exact (below_size (by repeat (first | (with_reducible first | exact HB.out | apply below_alloc | apply pw_below_drewN | apply below_drew1) | exact HB.out))) : w.heap.size ≤ gb219)); clear HB; have HB := n0_; have BK219 := n1_; have GW219 := n2_; have GE219 := n3_; clear n0_ n1_ n2_ n3_; clear hb hbox hg; have hcz10_0 : w9.cell? ⟨gb219, 0, none⟩ = some (.slice A0_0 l0_0.length c0_0) := (blk_cell BK219.out 0).trans rfl; have hfz10_0 := blk_frozen BK219.out 0; have p220 : 0 ≤ (a1 : Int) := of_decide_eq_true (by first | (with_reducible assumption) | assumption); have q220 : a1 < (l0_0.length : Int) := of_decide_eq_true (by first | (with_reducible assumption) | assumption); obtain ⟨ad220, e220, hx220_0, hx220_1, hx220_2, hx220_3⟩ := at_T47 HR0_0.out a1 p220 q220; cases e220; replace hx220_0 := (HB.out.cell (World.block_lt_of_cell? w _ hx220_0)).trans hx220_0; replace hx220_1 := (HB.out.cell (World.block_lt_of_cell? w _ hx220_1)).trans hx220_1; replace hx220_2 := (HB.out.cell (World.block_lt_of_cell? w _ hx220_2)).trans hx220_2; replace hx220_3 := (HB.out.cell (World.block_lt_of_cell? w _ hx220_3)).trans hx220_3; replace p220 := eq_true p220; replace q220 := eq_true q220))
          repeat (go_quiet (first | ((with_reducible refine gate_dst (N := 2) rfl ?_); (try (refine gate_guard (by rfl) ?_; dsimp only)); refine box_event ?hg (N := 2) ?hd (cs := #[.slice A0_0 l0_0.length c0_0]) (t := 25) ?hr ?_; (case hd => rfl); (case hg => rfl); (case hr => first | (go_simp; done) | (go_simp; rfl)); intro gb219 hg w9 hbox hb; have n0_ := Aside0.mk (below_step (by repeat (first | (with_reducible first | exact HB.out | apply below_alloc | apply pw_below_drewN | apply below_drew1) | exact HB.out)) hb); have n1_ := Aside0.mk (hbox); have n2_ := Aside0.mk ((by rw [hg]; exact (below_size (by repeat (first | (with_reducible first | exact HB.out | apply below_alloc | apply pw_below_drewN | apply below_drew1) | exact HB.out))) : w.heap.size ≤ gb219)); have n3_ := Aside0.mk ((by rw [hg]; exact (below_size (by repeat (first | (with_reducible first | exact HB.out | apply below_alloc | apply pw_below_drewN | apply below_drew1) | exact HB.out))) : w.heap.size ≤ gb219)); clear HB; have HB := n0_; have BK219 := n1_; have GW219 := n2_; have GE219 := n3_; clear n0_ n1_ n2_ n3_; clear hb hbox hg; have hcz10_0 : w9.cell? ⟨gb219, 0, none⟩ = some (.slice A0_0 l0_0.length c0_0) := (blk_cell BK219.out 0).trans rfl; have hfz10_0 := blk_frozen BK219.out 0; have p220 : 0 ≤ (a1 : Int) := of_decide_eq_true (by first | (with_reducible assumption) | assumption); have q220 : a1 < (l0_0.length : Int) := of_decide_eq_true (by first | (with_reducible assumption) | assumption); obtain ⟨ad220, e220, hx220_0, hx220_1, hx220_2, hx220_3⟩ := at_T47 HR0_0.out a1 p220 q220; cases e220; replace hx220_0 := (HB.out.cell (World.block_lt_of_cell? w _ hx220_0)).trans hx220_0; replace hx220_1 := (HB.out.cell (World.block_lt_of_cell? w _ hx220_1)).trans hx220_1; replace hx220_2 := (HB.out.cell (World.block_lt_of_cell? w _ hx220_2)).trans hx220_2; replace hx220_3 := (HB.out.cell (World.block_lt_of_cell? w _ hx220_3)).trans hx220_3; replace p220 := eq_true p220; replace q220 := eq_true q220)); try go_wp2_with (first | ((with_reducible refine gate_dst (N := 2) rfl ?_); (try (refine gate_guard (by rfl) ?_; dsimp only)); refine box_event ?hg (N := 2) ?hd (cs := #[.slice A0_0 l0_0.length c0_0]) (t := 25) ?hr ?_; (case hd => rfl); (case hg => rfl); (case hr => first | (go_simp; done) | (go_simp; rfl)); intro gb219 hg w9 hbox hb; have n0_ := Aside0.mk (below_step (by repeat (first | (with_reducible first | exact HB.out | apply below_alloc | apply pw_below_drewN | apply below_drew1) | exact HB.out)) hb); have n1_ := Aside0.mk (hbox); have n2_ := Aside0.mk ((by rw [hg]; exact (below_size (by repeat (first | (with_reducible first | exact HB.out | apply below_alloc | apply pw_below_drewN | apply below_drew1) | exact HB.out))) : w.heap.size ≤ gb219)); have n3_ := Aside0.mk ((by rw [hg]; exact (below_size (by repeat (first | (with_reducible first | exact HB.out | apply below_alloc | apply pw_below_drewN | apply below_drew1) | exact HB.out))) : w.heap.size ≤ gb219)); clear HB; have HB := n0_; have BK219 := n1_; have GW219 := n2_; have GE219 := n3_; clear n0_ n1_ n2_ n3_; clear hb hbox hg; have hcz10_0 : w9.cell? ⟨gb219, 0, none⟩ = some (.slice A0_0 l0_0.length c0_0) := (blk_cell BK219.out 0).trans rfl; have hfz10_0 := blk_frozen BK219.out 0; have p220 : 0 ≤ (a1 : Int) := of_decide_eq_true (by first | (with_reducible assumption) | assumption); have q220 : a1 < (l0_0.length : Int) := of_decide_eq_true (by first | (with_reducible assumption) | assumption); obtain ⟨ad220, e220, hx220_0, hx220_1, hx220_2, hx220_3⟩ := at_T47 HR0_0.out a1 p220 q220; cases e220; replace hx220_0 := (HB.out.cell (World.block_lt_of_cell? w _ hx220_0)).trans hx220_0; replace hx220_1 := (HB.out.cell (World.block_lt_of_cell? w _ hx220_1)).trans hx220_1; replace hx220_2 := (HB.out.cell (World.block_lt_of_cell? w _ hx220_2)).trans hx220_2; replace hx220_3 := (HB.out.cell (World.block_lt_of_cell? w _ hx220_3)).trans hx220_3; replace p220 := eq_true p220; replace q220 := eq_true q220)))
          go_ret
          exact ⟨by first | rfl | (simp [errW_none, errW_some] <;> rfl) | (simp [*, errW_none, errW_some] <;> rfl), by repeat (first | (with_reducible first | exact HB.out | apply below_alloc | apply pw_below_drewN | apply below_drew1 | refine below_set ?_ GE219.out) | exact HB.out)⟩
      · rw [if_neg c5] at H
        exact absurd H (by simp)
    · rw [if_neg c4] at H
      have c4b0 : decide (a1 < (l0_0.length : Int)) = false := decide_eq_false c4
      clear c4
      obtain rfl := Option.some.inj H
      go_enter Try.func51, Try.ntmps51
      go_wp2_with (first | ((with_reducible refine gate_dst (N := 2) rfl ?_); (try (refine gate_guard (by rfl) ?_; dsimp only)); refine box_event ?hg (N := 2) ?hd (cs := #[.slice A0_0 l0_0.length c0_0]) (t := 25) ?hr ?_; (case hd => rfl); (case hg => rfl); (case hr => first | (go_simp; done) | (go_simp; rfl)); intro gb219 hg w11 hbox hb; have n0_ := Aside0.mk (below_step (by repeat (first | (with_reducible first | exact HB.out | apply below_alloc | apply pw_below_drewN | apply below_drew1) | exact HB.out)) hb); have n1_ := Aside0.mk (hbox); have n2_ := Aside0.mk ((by rw [hg]; exact (below_size (by repeat (first | (with_reducible first | exact HB.out | apply below_alloc | apply pw_below_drewN | apply below_drew1) | exact HB.out))) : w.heap.size ≤ gb219)); have n3_ := Aside0.mk ((by rw [hg]; exact (below_size (by repeat (first | (with_reducible first | exact HB.out | apply below_alloc | apply pw_below_drewN | apply below_drew1) | exact HB.out))) : w.heap.size ≤ gb219)); clear HB; have HB := n0_; have BK219 := n1_; have GW219 := n2_; have GE219 := n3_; clear n0_ n1_ n2_ n3_; clear hb hbox hg; have hcz12_0 : w11.cell? ⟨gb219, 0, none⟩ = some (.slice A0_0 l0_0.length c0_0) := (blk_cell BK219.out 0).trans rfl; have hfz12_0 := blk_frozen BK219.out 0))
      repeat (go_quiet (first | ((with_reducible refine gate_dst (N := 2) rfl ?_); (try (refine gate_guard (by rfl) ?_; dsimp only)); refine box_event ?hg (N := 2) ?hd (cs := #[.slice A0_0 l0_0.length c0_0]) (t := 25) ?hr ?_; (case hd => rfl); (case hg => rfl); (case hr => first | (go_simp; done) | (go_simp; rfl)); intro gb219 hg w11 hbox hb; have n0_ := Aside0.mk (below_step (by repeat (first | (with_reducible first | exact HB.out | apply below_alloc | apply pw_below_drewN | apply below_drew1) | exact HB.out)) hb); have n1_ := Aside0.mk (hbox); have n2_ := Aside0.mk ((by rw [hg]; exact (below_size (by repeat (first | (with_reducible first | exact HB.out | apply below_alloc | apply pw_below_drewN | apply below_drew1) | exact HB.out))) : w.heap.size ≤ gb219)); have n3_ := Aside0.mk ((by rw [hg]; exact (below_size (by repeat (first | (with_reducible first | exact HB.out | apply below_alloc | apply pw_below_drewN | apply below_drew1) | exact HB.out))) : w.heap.size ≤ gb219)); clear HB; have HB := n0_; have BK219 := n1_; have GW219 := n2_; have GE219 := n3_; clear n0_ n1_ n2_ n3_; clear hb hbox hg; have hcz12_0 : w11.cell? ⟨gb219, 0, none⟩ = some (.slice A0_0 l0_0.length c0_0) := (blk_cell BK219.out 0).trans rfl; have hfz12_0 := blk_frozen BK219.out 0)); try go_wp2_with (first | ((with_reducible refine gate_dst (N := 2) rfl ?_); (try (refine gate_guard (by rfl) ?_; dsimp only)); refine box_event ?hg (N := 2) ?hd (cs := #[.slice A0_0 l0_0.length c0_0]) (t := 25) ?hr ?_; (case hd => rfl); (case hg => rfl); (case hr => first | (go_simp; done) | (go_simp; rfl)); intro gb219 hg w11 hbox hb; have n0_ := Aside0.mk (below_step (by repeat (first | (with_reducible first | exact HB.out | apply below_alloc | apply pw_below_drewN | apply below_drew1) | exact HB.out)) hb); have n1_ := Aside0.mk (hbox); have n2_ := Aside0.mk ((by rw [hg]; exact (below_size (by repeat (first | (with_reducible first | exact HB.out | apply below_alloc | apply pw_below_drewN | apply below_drew1) | exact HB.out))) : w.heap.size ≤ gb219)); have n3_ := Aside0.mk ((by rw [hg]; exact (below_size (by repeat (first | (with_reducible first | exact HB.out | apply below_alloc | apply pw_below_drewN | apply below_drew1) | exact HB.out))) : w.heap.size ≤ gb219)); clear HB; have HB := n0_; have BK219 := n1_; have GW219 := n2_; have GE219 := n3_; clear n0_ n1_ n2_ n3_; clear hb hbox hg; have hcz12_0 : w11.cell? ⟨gb219, 0, none⟩ = some (.slice A0_0 l0_0.length c0_0) := (blk_cell BK219.out 0).trans rfl; have hfz12_0 := blk_frozen BK219.out 0)))
      go_ret
      exact ⟨by first | rfl | (simp [errW_none, errW_some] <;> rfl) | (simp [*, errW_none, errW_some] <;> rfl), by repeat (first | (with_reducible first | exact HB.out | apply below_alloc | apply pw_below_drewN | apply below_drew1 | refine below_set ?_ GE219.out) | exact HB.out)⟩
  · rw [if_neg c3] at H
    have c3b0 : decide (0 ≤ a1) = false := decide_eq_false c3
    clear c3
    obtain rfl := Option.some.inj H
    go_enter Try.func51, Try.ntmps51
    go_wp2_with (first | ((with_reducible refine gate_dst (N := 2) rfl ?_); (try (refine gate_guard (by rfl) ?_; dsimp only)); refine box_event ?hg (N := 2) ?hd (cs := #[.slice A0_0 l0_0.length c0_0]) (t := 25) ?hr ?_; (case hd => rfl); (case hg => rfl); (case hr => first | (go_simp; done) | (go_simp; rfl)); intro gb219 hg w13 hbox hb; have n0_ := Aside0.mk (below_step (by repeat (first | (with_reducible first | exact HB.out | apply below_alloc | apply pw_below_drewN | apply below_drew1) | exact HB.out)) hb); have n1_ := Aside0.mk (hbox); have n2_ := Aside0.mk ((by rw [hg]; exact (below_size (by repeat (first | (with_reducible first | exact HB.out | apply below_alloc | apply pw_below_drewN | apply below_drew1) | exact HB.out))) : w.heap.size ≤ gb219)); have n3_ := Aside0.mk ((by rw [hg]; exact (below_size (by repeat (first | (with_reducible first | exact HB.out | apply below_alloc | apply pw_below_drewN | apply below_drew1) | exact HB.out))) : w.heap.size ≤ gb219)); clear HB; have HB := n0_; have BK219 := n1_; have GW219 := n2_; have GE219 := n3_; clear n0_ n1_ n2_ n3_; clear hb hbox hg))
    repeat (go_quiet (first | ((with_reducible refine gate_dst (N := 2) rfl ?_); (try (refine gate_guard (by rfl) ?_; dsimp only)); refine box_event ?hg (N := 2) ?hd (cs := #[.slice A0_0 l0_0.length c0_0]) (t := 25) ?hr ?_; (case hd => rfl); (case hg => rfl); (case hr => first | (go_simp; done) | (go_simp; rfl)); intro gb219 hg w13 hbox hb; have n0_ := Aside0.mk (below_step (by repeat (first | (with_reducible first | exact HB.out | apply below_alloc | apply pw_below_drewN | apply below_drew1) | exact HB.out)) hb); have n1_ := Aside0.mk (hbox); have n2_ := Aside0.mk ((by rw [hg]; exact (below_size (by repeat (first | (with_reducible first | exact HB.out | apply below_alloc | apply pw_below_drewN | apply below_drew1) | exact HB.out))) : w.heap.size ≤ gb219)); have n3_ := Aside0.mk ((by rw [hg]; exact (below_size (by repeat (first | (with_reducible first | exact HB.out | apply below_alloc | apply pw_below_drewN | apply below_drew1) | exact HB.out))) : w.heap.size ≤ gb219)); clear HB; have HB := n0_; have BK219 := n1_; have GW219 := n2_; have GE219 := n3_; clear n0_ n1_ n2_ n3_; clear hb hbox hg)); try go_wp2_with (first | ((with_reducible refine gate_dst (N := 2) rfl ?_); (try (refine gate_guard (by rfl) ?_; dsimp only)); refine box_event ?hg (N := 2) ?hd (cs := #[.slice A0_0 l0_0.length c0_0]) (t := 25) ?hr ?_; (case hd => rfl); (case hg => rfl); (case hr => first | (go_simp; done) | (go_simp; rfl)); intro gb219 hg w13 hbox hb; have n0_ := Aside0.mk (below_step (by repeat (first | (with_reducible first | exact HB.out | apply below_alloc | apply pw_below_drewN | apply below_drew1) | exact HB.out)) hb); have n1_ := Aside0.mk (hbox); have n2_ := Aside0.mk ((by rw [hg]; exact (below_size (by repeat (first | (with_reducible first | exact HB.out | apply below_alloc | apply pw_below_drewN | apply below_drew1) | exact HB.out))) : w.heap.size ≤ gb219)); have n3_ := Aside0.mk ((by rw [hg]; exact (below_size (by repeat (first | (with_reducible first | exact HB.out | apply below_alloc | apply pw_below_drewN | apply below_drew1) | exact HB.out))) : w.heap.size ≤ gb219)); clear HB; have HB := n0_; have BK219 := n1_; have GW219 := n2_; have GE219 := n3_; clear n0_ n1_ n2_ n3_; clear hb hbox hg)))
    go_ret
    exact ⟨by first | rfl | (simp [errW_none, errW_some] <;> rfl) | (simp [*, errW_none, errW_some] <;> rfl), by repeat (first | (with_reducible first | exact HB.out | apply below_alloc | apply pw_below_drewN | apply below_drew1 | refine below_set ?_ GE219.out) | exact HB.out)⟩

end Go.Proofs.Ytodldpdnhcafpaa.F

-- Plain walks of regions serve in a round of a loop over an iterator (the wide fence): operation for operation.
namespace Go.Proofs.Ytodldpdnhcafpaa.K
open Go.RowKit Go.Proofs.YtodldpdnhcafpaaW.PrintWords Go.Proofs.YtodldpdnhcafpaaW.PrintLast Go.Proofs.YtodldpdnhcafpaaW.PrintMore

section
variable {P : Program} {ops : Array Oper} {Q : Exit → Act → World → Prop} {n lp : Nat}

end

theorem blk_own {A B : World} {row : Option Nat} {b t : Nat} {cs : Array Value} {d : Nat × Nat} (h : A.heap[b]? = some (.cells cs t d)) (hg : A.grownBy B row)
    (hr : ∀ r, row = some r → ∃ o : Obj, A.heap[r]? = some o ∧ o.isCells = false) : B.heap[b]? = some (.cells cs t d) :=
  (hg.block b (Array.getElem?_eq_some_iff.1 h).1 (fun e' => by
    obtain ⟨_, ho, hc⟩ := hr b e'.symm
    rw [h] at ho
    cases ho
    cases hc)).trans h
/-- What keeps all that lay keeps whatever is no cells. -/
theorem keeps_below {A B : World} (h : Below A.heap.size A B) (b : Nat) : KeepsFrom b A B :=
  ⟨h.size, fun k _ _ hk _ => (h.block k (Array.getElem?_eq_some_iff.1 hk).1).trans hk⟩

/-- All that lay lies as it lay, but for one box. -/
def KeepB (W0 : World) (g : Nat) (W : World) : Prop := W0.heap.size ≤ W.heap.size ∧ ∀ k, k < W0.heap.size → k ≠ g → W.heap[k]? = W0.heap[k]?
theorem KeepB.refl (W0 : World) (g : Nat) : KeepB W0 g W0 := ⟨Nat.le_refl _, fun _ _ _ => rfl⟩
theorem KeepB.blk {W0 W : World} {g b : Nat} {o : Obj} (h : KeepB W0 g W) (hb : W0.heap[b]? = some o) (hne : b ≠ g) : W.heap[b]? = some o := (h.2 b (blk_lt hb) hne).trans hb
theorem KeepB.R {α : Type} {d : Kd α} {e base g : Nat} {v : Value} {xs : List α} {W0 W : World} (h : KeepB W0 g W) (hR : d.R e W0 base (fun k => k ≠ g) v xs) : d.R e W base (fun k => k ≠ g) v xs :=
  Kd.R_step hR (fun k hk hlt => h.2 k hlt hk)
theorem KeepB.trans {W0 W W' : World} {g : Nat} (h : KeepB W0 g W) (h' : W.heap.size ≤ W'.heap.size) (hk : ∀ k, k < W0.heap.size → k ≠ g → W'.heap[k]? = W.heap[k]?) : KeepB W0 g W' :=
  ⟨Nat.le_trans h.1 h', fun k h1 h2 => (hk k h1 h2).trans (h.2 k h1 h2)⟩
theorem keepB_own {s : Type} (W0 : World) (g : Nat) : OwnFrom W0.heap.size (fun (_ : s) W => KeepB W0 g W) :=
  fun _ A B row h hg hr => h.trans hg.size (fun k hk _ => hg.block k (Nat.lt_of_lt_of_le hk h.1) (fun e => by have := (hr k e.symm).1; omega))
end Go.Proofs.Ytodldpdnhcafpaa.K

-- tokens (53, 62): the iterator's contract
namespace Go.Proofs.Ytodldpdnhcafpaa.K
open Go.RowKit Go.Shelf Go.Proofs.YtodldpdnhcafpaaW.PrintWords Go.Proofs.YtodldpdnhcafpaaW.PrintLast Go.Proofs.YtodldpdnhcafpaaW.PrintMore
open Go.Proofs.Ytodldpdnhcafpaa.F
attribute [local go_sem] Oper.semAt_some max2_int min2_int max_two min_two
set_option linter.unusedVariables false
set_option linter.unusedSimpArgs false

/-- What a round keeps: what lay ahead of the call, the two boxes. -/
def KpT (n₀ b1 b2 : Nat) (W W' : World) : Prop := Below n₀ W W' ∧ W'.heap[b1]? = W.heap[b1]? ∧ W'.heap[b2]? = W.heap[b2]?
theorem KpT.trans {n₀ b1 b2 : Nat} {A B C : World} (h : KpT n₀ b1 b2 A B) (k : KpT n₀ b1 b2 B C) : KpT n₀ b1 b2 A C := ⟨h.1.trans k.1, k.2.1.trans h.2.1, k.2.2.trans h.2.2⟩
theorem KpT.refl (n₀ b1 b2 : Nat) (A : World) : KpT n₀ b1 b2 A A := ⟨Below.refl _ _, rfl, rfl⟩

end Go.Proofs.Ytodldpdnhcafpaa.K

-- Text (29): its contract (made by wip/mkgtext.py)
namespace Go.Proofs.Ytodldpdnhcafpaa.F
open Go.RowKit Go.Shelf Go.Proofs.YtodldpdnhcafpaaW.PrintWords Go.Proofs.YtodldpdnhcafpaaW.PrintLast Go.Proofs.YtodldpdnhcafpaaW.PrintMore
open Go.Proofs.Ytodldpdnhcafpaa.K
attribute [local go_sem] Oper.semAt_some
set_option linter.unusedVariables false
set_option linter.unusedSimpArgs false

/-- The normal way out alone. -/
def onlyN (Q : Exit → Act → World → Prop) : Exit → Act → World → Prop
  | .normal, a, w => Q .normal a w
  | _, _, _ => False
theorem onlyN_normal {Q : Exit → Act → World → Prop} {a : Act} {w : World} : onlyN Q .normal a w = Q .normal a w := rfl
theorem start_n {P : Program} {ops : Array Oper} {Q : Exit → Act → World → Prop} {S : World → Prop} {ds : List Nat} {id n : Nat} {a : Act} {w : World} (l : Array Bool) (hm : P.follows .mixedOrders = true) (hn : ops.size = n) (hl : Array.replicate n false = l) (hS : S w.drew)
    (h : S w.drew → wpAnyLast P .any ops (onlyN Q) S ds n l a w.drew) : (Code.region id ops true).wp P Q a w :=
  wp_mono (start_ l hm hn hl hS h) (fun e a w h => by cases e <;> first | exact h | exact h.elim)
end Go.Proofs.Ytodldpdnhcafpaa.F

-- Same (33): its contract (made by wip/mkgsame.py)
namespace Go.Proofs.Ytodldpdnhcafpaa.F
open Go.RowKit Go.Shelf Go.Proofs.YtodldpdnhcafpaaW.PrintWords Go.Proofs.YtodldpdnhcafpaaW.PrintLast Go.Proofs.YtodldpdnhcafpaaW.PrintMore
open Go.Proofs.Ytodldpdnhcafpaa.K
attribute [local go_sem] Oper.semAt_some
set_option linter.unusedVariables false
set_option linter.unusedSimpArgs false

def mark (D : Nat) : Deferred := { target := .collected D, args := #[] }
end Go.Proofs.Ytodldpdnhcafpaa.F

namespace Go.Proofs.Ytodldpdnhcafpaa.Q
open Go.RowKit Go.Proofs.YtodldpdnhcafpaaW.PrintWords Go.Proofs.YtodldpdnhcafpaaW.PrintLast Go.Proofs.YtodldpdnhcafpaaW.PrintMore
open Go.Proofs.Ytodldpdnhcafpaa.F Go.Proofs.Ytodldpdnhcafpaa.K
set_option linter.unusedSimpArgs false
set_option linter.unusedVariables false

theorem kw64 {x : Int} (h0 : -9223372036854775808 ≤ x) (h1 : x ≤ 9223372036854775807) : wrap64 x = x := by unfold wrap64; omega
def sizedB (l : List S47) (n : Int) : Bool := decide (0 ≤ n) && (decide (n < (l.length : Int)) && (decide (1 ≤ (rd_T47 l n).f3) && decide ((rd_T47 l n).f3 ≤ (l.length : Int) - n)))
theorem sized_is (l : List S47) (hl : l.length ≤ 4398046511104) (n : Int) : tree_sized.f l n = some (sizedB l n) := by
  unfold tree_sized.f sizedB
  by_cases h1 : n ≥ 0
  · by_cases h2 : n < (l.length : Int)
    · rw [if_pos h1, if_pos h2, if_pos h1, kw64 (by omega) (by omega)]
      by_cases h3 : (rd_T47 l n).f3 ≥ 1
      · rw [if_pos h3]
        simp [h1, h2, show 1 ≤ (rd_T47 l n).f3 from h3]
      · rw [if_neg h3]
        simp [h1, h2, show ¬ 1 ≤ (rd_T47 l n).f3 from h3]
    · rw [if_pos h1, if_neg h2]; simp [h2]
  · rw [if_neg h1]; simp [show ¬ 0 ≤ n from h1]

end Go.Proofs.Ytodldpdnhcafpaa.Q

-- Walk (25, 50): the iterator's contract
namespace Go.Proofs.Ytodldpdnhcafpaa.K
open Go.RowKit Go.Shelf Go.Proofs.YtodldpdnhcafpaaW.PrintWords Go.Proofs.YtodldpdnhcafpaaW.PrintLast Go.Proofs.YtodldpdnhcafpaaW.PrintMore
open Go.Proofs.Ytodldpdnhcafpaa.F
attribute [local go_sem] Oper.semAt_some max2_int min2_int max_two min_two
set_option linter.unusedVariables false
set_option linter.unusedSimpArgs false

/-- The numbers of a Walk from x on, up to en. -/
def walkL (l : List S47) (sk : Int → Bool) (en : Int) : Nat → Int → List Int
  | 0, _ => []
  | d + 1, x => if x < en then x :: (if sk x = true then (if (rd_T47 l x).f3 < 1 then [] else if (rd_T47 l x).f3 > en - x then [] else walkL l sk en d (x + (rd_T47 l x).f3)) else walkL l sk en d (x + 1)) else []
def walkOf (l : List S47) (sk : Int → Bool) (n : Int) : List Int := if Q.sizedB l n = true then walkL l sk (n + (rd_T47 l n).f3) l.length n else []
abbrev Nd (l : List S47) := { x : Int // 0 ≤ x ∧ x < (l.length : Int) }
def valsN {l : List S47} (xs : List (Nd l)) : List Int := xs.map (·.1)
/-- What is asked of skip: nil, or a function that only looks. -/
def SkipIs (w0 : World) (sv : Value) (sk : Int → Bool) : Prop :=
  (sv = Value.nilFunc ∧ ∀ x, sk x = false) ∨ (∃ g lb, sv = .func (.func g) #[] lb ∧ (∀ args W, (callFunc g args).run Try.prog W = .ok (.enter g args) W) ∧ ∀ (x : Int) (W : World), Below w0.heap.size w0 W → Calls Try.prog g (#[.int .i64 x] ++ lb) W fun e w' => e = .returned (.bool (sk x)) ∧ Below W.heap.size W w')
def KpW (n₀ b1 b2 b3 : Nat) (W W' : World) : Prop := Below n₀ W W' ∧ W'.heap[b1]? = W.heap[b1]? ∧ W'.heap[b2]? = W.heap[b2]? ∧ W'.heap[b3]? = W.heap[b3]?
theorem KpW.trans {n₀ b1 b2 b3 : Nat} {A B C : World} (h : KpW n₀ b1 b2 b3 A B) (k : KpW n₀ b1 b2 b3 B C) : KpW n₀ b1 b2 b3 A C := ⟨h.1.trans k.1, k.2.1.trans h.2.1, k.2.2.1.trans h.2.2.1, k.2.2.2.trans h.2.2.2⟩

theorem nil_nil (W : World) : (binOp BinOp.eql 40 Value.nilFunc Value.nilFunc).run Try.prog W = .ok (.bool true) W := by
  first | rfl | (simp [binOp, go_sem, Try.underlying40]; done)
theorem fn_nil (W : World) (g : Nat) (lb : Array Value) : (binOp BinOp.eql 40 (Value.func (.func g) #[] lb) Value.nilFunc).run Try.prog W = .ok (.bool false) W := by
  first | rfl | (simp [binOp, go_sem, Try.underlying40]; done)

set_option maxRecDepth 100000 in
set_option maxHeartbeats 2000000 in
theorem walk1_in (n : Nat) (hn : 1 ≤ n) (lp b1 b2 b3 : Nat) (w0 : World) (A : Option Addr) (c : Nat) (l : List S47) (m : Int) (sv : Value) (sk : Int → Bool) (hl : l.length ≤ 4398046511104) (hc : Kd.C k47 w0 A l.length l) (hlc : l.length ≤ c) (hsk : SkipIs w0 sv sk) (J Jx : List (Nd l) → World → Prop)
    (hJ : ∀ s X Y, J s X → Below X.heap.size X Y → J s Y)
    (hY : ∀ pre (x : Nd l) W, J pre W → pre.length < l.length → YieldAt Fence.wide (n - 1) Try.prog lp #[.int .i64 x.1] W fun e W' =>
      (e = .returned (.bool true) ∧ J (pre ++ [x]) W' ∧ KpW w0.heap.size b1 b2 b3 W W') ∨ (e = .returned (.bool false) ∧ Jx (pre ++ [x]) W'))
    (W : World) (hW : Below w0.heap.size w0 W) (h1 : W.heap[b1]? = some (.cells #[.slice A l.length c] 25 (0, 0))) (h2 : W.heap[b2]? = some (.cells #[.int .i64 m] 3 (0, 0))) (h3 : W.heap[b3]? = some (.cells #[sv] 40 (0, 0))) (h0 : J [] W) :
    CallsIn Fence.wide n Try.prog 50 #[.func (.yield lp) #[] #[], .pointer (some ⟨b1, 0, none⟩), .pointer (some ⟨b2, 0, none⟩), .pointer (some ⟨b3, 0, none⟩)] W fun e W' => (∃ v, e = .returned v) ∧
      ((∃ ys : List (Nd l), valsN ys = walkOf l sk m ∧ J ys W') ∨ (∃ pre : List (Nd l), valsN pre <+: walkOf l sk m ∧ Jx pre W')) := by
  have hu23 := Try.underlying23
  have hu25 := Try.underlying25
  have hu40 := Try.underlying40
  have hu47 := Try.underlying47
  have q1 : W.cell? ⟨b1, 0, none⟩ = some (.slice A l.length c) := (blk_cell h1 0).trans rfl
  have q2 : W.cell? ⟨b2, 0, none⟩ = some (.int .i64 m) := (blk_cell h2 0).trans rfl
  obtain ⟨wl, hwl⟩ : ∃ wl, walkOf l sk m = wl := ⟨_, rfl⟩
  rw [hwl]
  refine callsIn_of_wp Try.func50 rfl trivial ?_ rfl
  simp only [Try.ntmps50, List.size_toArray, List.length_cons, List.length_nil, Nat.reduceAdd, Nat.reduceSub, Array.replicate_succ, Array.replicate_zero, List.push_toArray, List.append_toArray, List.nil_append, List.cons_append]
  gi_wp2
  refine ⟨trivial, ?_⟩
  cases hs : Q.sizedB l m with
  | false =>
    have hwo : wl = [] := by rw [← hwl]; unfold walkOf; rw [hs]; rfl
    subst hwo
    refine (callsIn_wide.2 (tree_sized.calls A c l m false W (Kd.C_below hc hW) hlc (by rw [Q.sized_is l hl m, hs]))).mono ?_
    rintro e w1 ⟨rfl, hb1⟩
    have h01 := hJ _ _ _ h0 hb1
    gi_wp2
    refine bodyPost_ret (results_none rfl _ _ _) rfl ?_
    exact ⟨⟨_, rfl⟩, .inl ⟨[], rfl, h01⟩⟩
  | true =>
    refine (callsIn_wide.2 (tree_sized.calls A c l m true W (Kd.C_below hc hW) hlc (by rw [Q.sized_is l hl m, hs]))).mono ?_
    rintro e w1 ⟨rfl, hb1⟩
    have hW1 : Below w0.heap.size w0 w1 := hW.trans (hb1.mono hW.size)
    have h01 := hJ _ _ _ h0 hb1
    have g1 := blk_below h1 hb1
    have g2 := blk_below h2 hb1
    have g3 := blk_below h3 hb1
    clear q1 q2 h0 h1 h2 h3 hW hb1
    have hs' := hs
    unfold Q.sizedB at hs'
    simp only [Bool.and_eq_true, decide_eq_true_eq] at hs'
    obtain ⟨s1, s2, s3, s4⟩ := hs'
    obtain ⟨ad, rfl, y0, y1, y2, y3⟩ := at_T47 (Kd.C_below hc hW1) m s1 s2
    have q1 : w1.cell? ⟨b1, 0, none⟩ = some (.slice (some ad) l.length c) := (blk_cell g1 0).trans rfl
    have q2 : w1.cell? ⟨b2, 0, none⟩ = some (.int .i64 m) := (blk_cell g2 0).trans rfl
    have hw : wrap64 (m + (rd_T47 l m).f3) = m + (rd_T47 l m).f3 := by unfold wrap64; omega
    have hwo : walkL l sk (m + (rd_T47 l m).f3) l.length m = wl := by rw [← hwl]; unfold walkOf; rw [if_pos hs]
    clear hs hwl
    obtain ⟨en, hen⟩ : ∃ en, m + (rd_T47 l m).f3 = en := ⟨_, rfl⟩
    have hel : en ≤ (l.length : Int) := by omega
    have hme : m < en := by omega
    gi_wp2
    refine wpIn_wide.2 ?_
    go_quiet (fail)
    simp only [hw, hen] at hwo ⊢
    have q2' : (w1.drewN nq).cell? ⟨b2, 0, none⟩ = some (.int .i64 m) := q2
    gi_wp2
    have hd0 : Below w0.heap.size w0 (w1.drewN nq) := pw_below_drewN hW1 nq
    have hj0 : J [] (w1.drewN nq) := hJ _ _ _ h01 (pw_below_drewN (Below.refl _ _) nq)
    have k1 : (w1.drewN nq).heap[b1]? = some (.cells #[.slice (some ad) l.length c] 25 (0, 0)) := blk_drewN g1 nq
    have k3 : (w1.drewN nq).heap[b3]? = some (.cells #[sv] 40 (0, 0)) := blk_drewN g3 nq
    generalize w1.drewN nq = w2 at hd0 hj0 k1 k3 ⊢
    clear q1 q2 q2' g1 g2 g3 h01 hW1 y0 y1 y2 y3 hw
    gi_loopw [6, 7] (fun v6 v7 wr => ∃ (x : Int) (d : Nat) (pre : List (Nd l)), v6 = .int .i64 x ∧ m ≤ x ∧ x ≤ en ∧ (pre.length : Int) ≤ x - m ∧ en - x ≤ d ∧ valsN pre ++ walkL l sk en d x = wl ∧ J pre wr ∧ Below w0.heap.size w0 wr ∧ wr.heap[b1]? = some (.cells #[.slice (some ad) l.length c] 25 (0, 0)) ∧ wr.heap[b3]? = some (.cells #[sv] 40 (0, 0))) (fun v6 v7 _ => (en - intOf v6).toNat)
    case atStart => exact ⟨m, l.length, [], rfl, Int.le_refl _, by omega, by simp, by omega, by simpa [valsN] using hwo, hj0, hd0, k1, k3⟩
    case round =>
      obtain ⟨x, d, pre, rfl, hx, hxe, hpl, hxd, hpre, hJs, hB, r1, r3⟩ := hrel
      by_cases hlt : x < en
      · have hx0 : 0 ≤ x := by omega
        have hxl : x < (l.length : Int) := by omega
        obtain ⟨d, rfl⟩ : ∃ e, d = e + 1 := ⟨d - 1, by omega⟩
        simp only [walkL] at hpre
        rw [if_pos hlt] at hpre
        obtain ⟨fn, tmps, assign, body, hy, hR⟩ := hY pre ⟨x, hx0, hxl⟩ wr hJs (by omega)
        dsimp only at hy
        have hsn : valsN (pre ++ [(⟨x, hx0, hxl⟩ : Nd l)]) = valsN pre ++ [x] := by simp [valsN]
        gi_wp2
        refine hR.mono ?_
        rintro e W3 (⟨rfl, hJ3, hk3⟩ | ⟨rfl, hJx3⟩)
        · have hB3 := hB.trans hk3.1
          have t1 := hk3.2.1.trans r1
          have t3 := hk3.2.2.2.trans r3
          have q3 : W3.cell? ⟨b3, 0, none⟩ = some sv := (blk_cell t3 0).trans rfl
          have hw1 : wrap64 (x + 1) = x + 1 := by unfold wrap64; omega
          have hpl3 : (((pre ++ [(⟨x, hx0, hxl⟩ : Nd l)]).length : Nat) : Int) = (pre.length : Int) + 1 := by rw [List.length_append, List.length_singleton]; rfl
          rcases hsk with ⟨rfl, hsf⟩ | ⟨g, lb, rfl, eg, hsf⟩
          · rw [hsf x] at hpre
            simp only [Bool.false_eq_true, if_false] at hpre
            have nn := nil_nil W3
            gi_wp2
            refine ⟨fun _ h => (by cases h), ?_⟩
            gi_wp2
            go_roundw
            case rel => exact ⟨x + 1, d, pre ++ [⟨x, hx0, hxl⟩], rfl, by omega, by omega, by rw [hpl3]; omega, by omega, by rw [hsn, List.append_assoc]; exact hpre, hJ3, hB3, t1, t3⟩
            case measure => simp only [intOf]; omega
          · have nn := fn_nil W3 g lb
            gi_wp2
            refine ⟨trivial, ?_⟩
            refine (callsIn_wide.2 (hsf x W3 hB3)).mono ?_
            rintro e W4 ⟨rfl, hb4⟩
            have hJ4 := hJ _ _ _ hJ3 hb4
            have hB4 := hB3.trans (hb4.mono hB3.size)
            have v1 := blk_below t1 hb4
            have v3 := blk_below t3 hb4
            cases hq : sk x with
            | false =>
              rw [hq] at hpre
              simp only [Bool.false_eq_true, if_false] at hpre
              gi_wp2
              go_roundw
              case rel => exact ⟨x + 1, d, pre ++ [⟨x, hx0, hxl⟩], rfl, by omega, by omega, by rw [hpl3]; omega, by omega, by rw [hsn, List.append_assoc]; exact hpre, hJ4, hB4, v1, v3⟩
              case measure => simp only [intOf]; omega
            | true =>
              rw [hq] at hpre
              simp only [if_true] at hpre
              obtain ⟨ad', ea, z0, z1, z2, z3⟩ := at_T47 (Kd.C_below hc hB4) x hx0 hxl
              cases ea
              have q1 : W4.cell? ⟨b1, 0, none⟩ = some (.slice (some ad) l.length c) := (blk_cell v1 0).trans rfl
              have hw3 : wrap64 (en - x) = en - x := by unfold wrap64; omega
              have hdone : ∀ X, valsN pre ++ [x] = X → valsN (pre ++ [(⟨x, hx0, hxl⟩ : Nd l)]) = X := fun X h => by rw [hsn]; exact h
              by_cases c1 : (rd_T47 l x).f3 < 1
              · rw [if_pos c1] at hpre
                gi_wp2
                refine bodyPost_ret (results_none rfl _ _ _) rfl ?_
                exact ⟨⟨_, rfl⟩, .inl ⟨_, hdone _ hpre, hJ4⟩⟩
              · rw [if_neg c1] at hpre
                by_cases c2 : (rd_T47 l x).f3 > en - x
                · rw [if_pos c2] at hpre
                  gi_wp2
                  all_goals (refine bodyPost_ret (results_none rfl _ _ _) rfl ?_)
                  all_goals exact ⟨⟨_, rfl⟩, .inl ⟨_, hdone _ hpre, hJ4⟩⟩
                · rw [if_neg c2] at hpre
                  have hw4 : wrap64 (x + (rd_T47 l x).f3) = x + (rd_T47 l x).f3 := by unfold wrap64; omega
                  gi_wp2
                  go_roundw
                  case rel => exact ⟨x + (rd_T47 l x).f3, d, pre ++ [⟨x, hx0, hxl⟩], rfl, by omega, by omega, by rw [hpl3]; omega, by omega, by rw [hsn, List.append_assoc]; exact hpre, hJ4, hB4, v1, v3⟩
                  case measure => simp only [intOf]; omega
        · gi_wp2
          refine bodyPost_ret (results_none rfl _ _ _) rfl ?_
          refine ⟨⟨_, rfl⟩, .inr ⟨_, ?_, hJx3⟩⟩
          rw [hsn, ← hpre]
          exact ⟨_, by rw [List.append_assoc]; rfl⟩
      · gi_wp2
        go_end0
        refine ⟨⟨_, rfl⟩, .inl ⟨pre, ?_, hJs⟩⟩
        rw [← hpre]
        cases d with
        | zero => simp [walkL]
        | succ d => simp only [walkL]; rw [if_neg (by omega), List.append_nil]

theorem KpW_b {n₀ B b1 b2 b3 : Nat} (hn : n₀ ≤ B) (h1 : b1 < B) (h2 : b2 < B) (h3 : b3 < B) (W : World) (l : Nat) (o o' : Obj) (hl : B ≤ l) (ho : W.heap[l]? = some o) (hc : o.isCells = false) (hw : o.isWalk = false) : KpW n₀ b1 b2 b3 W (W.putObj l o') :=
  ⟨(Below.refl n₀ W).grown (grownBy_putObj' W l o') (by have := (Array.getElem?_eq_some_iff.1 ho).1; omega) (fun k e => by cases e; omega), World.putObj_heap_other (by omega), World.putObj_heap_other (by omega), World.putObj_heap_other (by omega)⟩

theorem walk_stops (n : Nat) (hn : 1 ≤ n) (b1 b2 b3 : Nat) (w0 w : World) (A : Option Addr) (c : Nat) (l : List S47) (m : Int) (sv : Value) (sk : Int → Bool) (hl : l.length ≤ 4398046511104) (hc : Kd.C k47 w0 A l.length l) (hlc : l.length ≤ c) (hsk : SkipIs w0 sv sk)
    (hW : Below w0.heap.size w0 w) (h1 : w.heap[b1]? = some (.cells #[.slice A l.length c] 25 (0, 0))) (h2 : w.heap[b2]? = some (.cells #[.int .i64 m] 3 (0, 0))) (h3 : w.heap[b3]? = some (.cells #[sv] 40 (0, 0))) :
    SeqStopsK Fence.wide n Try.prog 50 #[.pointer (some ⟨b1, 0, none⟩), .pointer (some ⟨b2, 0, none⟩), .pointer (some ⟨b3, 0, none⟩)] (fun x : Nd l => #[.int .i64 x.1]) (KpW w0.heap.size b1 b2 b3) (fun ys => valsN ys = walkOf l sk m) (fun pre => valsN pre <+: walkOf l sk m) l.length w :=
  fun lp J Jx W hb hJ _ hY h0 => walk1_in n hn lp b1 b2 b3 w0 A c l m sv sk hl hc hlc hsk J Jx (fun s X Y h hb => hJ s X Y none h ⟨hb.os, hb.tape, hb.output, hb.size, fun k hk _ => hb.block k hk⟩ (fun r e => by cases e)) hY W (hW.trans (hb.mono hW.size)) (blk_below h1 hb) (blk_below h2 hb) (blk_below h3 hb) h0

theorem walk.calls (A : Option Addr) (m c : Nat) (n : Int) (sv : Value) (hsv : sv = Value.nilFunc ∨ ∃ g lb, sv = .func (.func g) #[] lb) (w : World) :
    Calls Try.prog 25 #[.agg #[.slice A m c], .int .i64 n, sv] w fun e w' => ∃ b1 b2 b3, e = .returned (.func (.func 50) #[] #[.pointer (some ⟨b1, 0, none⟩), .pointer (some ⟨b2, 0, none⟩), .pointer (some ⟨b3, 0, none⟩)]) ∧
      w'.heap[b1]? = some (.cells #[.slice A m c] 25 (0, 0)) ∧ w'.heap[b2]? = some (.cells #[.int .i64 n] 3 (0, 0)) ∧ w'.heap[b3]? = some (.cells #[sv] 40 (0, 0)) ∧ w.heap.size ≤ b1 ∧ w.heap.size ≤ b2 ∧ w.heap.size ≤ b3 ∧ Below w.heap.size w w' := by
  have hu25 := Try.underlying25
  have hu40 := Try.underlying40
  have HB := Aside0.mk (Below.refl w.heap.size w)
  rcases hsv with rfl | ⟨g, lb, rfl⟩
  · go_enter Try.func25, Try.ntmps25
    go_wp2_with (first
      | ((with_reducible refine gate_dst (N := 3) rfl ?_); refine box_event ?hg3 (N := 3) ?hd3 (cs := #[.slice A m c]) (t := 25) ?hr3 ?_; (case hd3 => rfl); (case hg3 => rfl); (case hr3 => first | (go_simp; done) | (go_simp; rfl)); intro g3 hg w1 hbox hb; have n0_ := Aside0.mk (below_step HB.out hb); have n1_ := Aside0.mk hbox; have GE3 := Aside0.mk (show w.heap.size ≤ g3 by rw [hg]; exact Nat.le_refl _); clear HB; have HB := n0_; have BK3 := n1_; clear n0_ n1_ hb hbox hg)
      | ((with_reducible refine gate_dst (N := 4) rfl ?_); refine box_event ?hg4 (N := 4) ?hd4 (cs := #[.int .i64 n]) (t := 3) ?hr4 ?_; (case hd4 => rfl); (case hg4 => rfl); (case hr4 => first | (go_simp; done) | (go_simp; rfl)); intro g4 hg w2 hbox hb; have n0_ := Aside0.mk (below_step HB.out hb); have n1_ := Aside0.mk hbox; have n2_ := Aside0.mk (blk_below BK3.out hb); have GE4 := Aside0.mk (show w.heap.size ≤ g4 by rw [hg]; exact HB.out.size); clear HB BK3; have HB := n0_; have BK4 := n1_; have BK3 := n2_; clear n0_ n1_ n2_ hb hbox hg)
      | ((with_reducible refine gate_dst (N := 5) rfl ?_); refine box_event ?hg5 (N := 5) ?hd5 (cs := #[Value.nilFunc]) (t := 40) ?hr5 ?_; (case hd5 => rfl); (case hg5 => rfl); (case hr5 => first | (go_simp; done) | (go_simp; rfl)); intro g5 hg w3 hbox hb; have n0_ := Aside0.mk (below_step HB.out hb); have n1_ := Aside0.mk hbox; have n2_ := Aside0.mk (blk_below BK3.out hb); have n3_ := Aside0.mk (blk_below BK4.out hb); have GE5 := Aside0.mk (show w.heap.size ≤ g5 by rw [hg]; exact HB.out.size); clear HB BK3 BK4; have HB := n0_; have BK5 := n1_; have BK3 := n2_; have BK4 := n3_; clear n0_ n1_ n2_ n3_ hb hbox hg))
    go_ret
    exact ⟨g3, g4, g5, rfl, BK3.out, BK4.out, BK5.out, GE3.out, GE4.out, GE5.out, HB.out⟩
  · go_enter Try.func25, Try.ntmps25
    go_wp2_with (first
      | ((with_reducible refine gate_dst (N := 3) rfl ?_); refine box_event ?hg3 (N := 3) ?hd3 (cs := #[.slice A m c]) (t := 25) ?hr3 ?_; (case hd3 => rfl); (case hg3 => rfl); (case hr3 => first | (go_simp; done) | (go_simp; rfl)); intro g3 hg w1 hbox hb; have n0_ := Aside0.mk (below_step HB.out hb); have n1_ := Aside0.mk hbox; have GE3 := Aside0.mk (show w.heap.size ≤ g3 by rw [hg]; exact Nat.le_refl _); clear HB; have HB := n0_; have BK3 := n1_; clear n0_ n1_ hb hbox hg)
      | ((with_reducible refine gate_dst (N := 4) rfl ?_); refine box_event ?hg4 (N := 4) ?hd4 (cs := #[.int .i64 n]) (t := 3) ?hr4 ?_; (case hd4 => rfl); (case hg4 => rfl); (case hr4 => first | (go_simp; done) | (go_simp; rfl)); intro g4 hg w2 hbox hb; have n0_ := Aside0.mk (below_step HB.out hb); have n1_ := Aside0.mk hbox; have n2_ := Aside0.mk (blk_below BK3.out hb); have GE4 := Aside0.mk (show w.heap.size ≤ g4 by rw [hg]; exact HB.out.size); clear HB BK3; have HB := n0_; have BK4 := n1_; have BK3 := n2_; clear n0_ n1_ n2_ hb hbox hg)
      | ((with_reducible refine gate_dst (N := 5) rfl ?_); refine box_event ?hg5 (N := 5) ?hd5 (cs := #[.func (.func g) #[] lb]) (t := 40) ?hr5 ?_; (case hd5 => rfl); (case hg5 => rfl); (case hr5 => first | (go_simp; done) | (go_simp; rfl)); intro g5 hg w3 hbox hb; have n0_ := Aside0.mk (below_step HB.out hb); have n1_ := Aside0.mk hbox; have n2_ := Aside0.mk (blk_below BK3.out hb); have n3_ := Aside0.mk (blk_below BK4.out hb); have GE5 := Aside0.mk (show w.heap.size ≤ g5 by rw [hg]; exact HB.out.size); clear HB BK3 BK4; have HB := n0_; have BK5 := n1_; have BK3 := n2_; have BK4 := n3_; clear n0_ n1_ n2_ n3_ hb hbox hg))
    go_ret
    exact ⟨g3, g4, g5, rfl, BK3.out, BK4.out, BK5.out, GE3.out, GE4.out, GE5.out, HB.out⟩
end Go.Proofs.Ytodldpdnhcafpaa.K

-- chosen (26, 52): its contract, as a Walk asks it
namespace Go.Proofs.Ytodldpdnhcafpaa.K
open Go.RowKit Go.Shelf Go.Proofs.YtodldpdnhcafpaaW.PrintWords Go.Proofs.YtodldpdnhcafpaaW.PrintLast Go.Proofs.YtodldpdnhcafpaaW.PrintMore
open Go.Proofs.Ytodldpdnhcafpaa.F
set_option linter.unusedVariables false
set_option linter.unusedSimpArgs false

/-- The bit that is asked. -/
def chV (bits x : Int) : Int := Go.bits .and .u64 (shr .u64 bits (IntKind.u64.wrap (Go.bits .and .i64 x 63))) 1
def chB (bits x : Int) : Bool := chV bits x == 1
theorem chosen1.calls (bits x : Int) (b : Nat) (W : World) (hb : W.heap[b]? = some (.cells #[.int .u64 bits] 36 (0, 0))) :
    Calls Try.prog 52 #[.int .i64 x, .pointer (some ⟨b, 0, none⟩)] W fun e w' => e = .returned (.bool (chB bits x)) ∧ Below W.heap.size W w' := by
  have hu36 := Try.underlying36
  have q : W.cell? ⟨b, 0, none⟩ = some (.int .u64 bits) := (blk_cell hb 0).trans rfl
  have HB := Aside0.mk (Below.refl W.heap.size W)
  go_enter Try.func52, Try.ntmps52
  go_wp2
  go_ret
  exact ⟨rfl, HB.out⟩
theorem chosen_skip {w0 : World} {bits : Int} {b : Nat} (hb : w0.heap[b]? = some (.cells #[.int .u64 bits] 36 (0, 0))) : SkipIs w0 (.func (.func 52) #[] #[.pointer (some ⟨b, 0, none⟩)]) (chB bits) :=
  .inr ⟨52, _, rfl, enters_of Try.func52 (by kernel_rfl) rfl, fun x W hW => chosen1.calls bits x b W (blk_below hb hW)⟩
theorem chosen.calls (bits : Int) (w : World) :
    Calls Try.prog 26 #[.int .u64 bits] w fun e w' => ∃ b, e = .returned (.func (.func 52) #[] #[.pointer (some ⟨b, 0, none⟩)]) ∧ w'.heap[b]? = some (.cells #[.int .u64 bits] 36 (0, 0)) ∧ w.heap.size ≤ b ∧ Below w.heap.size w w' := by
  have hu36 := Try.underlying36
  have HB := Aside0.mk (Below.refl w.heap.size w)
  go_enter Try.func26, Try.ntmps26
  go_wp2_with (first
    | ((with_reducible refine gate_dst (N := 1) rfl ?_); refine box_event ?hg3 (N := 1) ?hd3 (cs := #[.int .u64 bits]) (t := 36) ?hr3 ?_; (case hd3 => rfl); (case hg3 => rfl); (case hr3 => first | (go_simp; done) | (go_simp; rfl)); intro g3 hg w1 hbox hb; have n0_ := Aside0.mk (below_step HB.out hb); have n1_ := Aside0.mk hbox; have GE3 := Aside0.mk (show w.heap.size ≤ g3 by rw [hg]; exact Nat.le_refl _); clear HB; have HB := n0_; have BK3 := n1_; clear n0_ n1_ hb hbox hg))
  go_ret
  exact ⟨g3, rfl, BK3.out, GE3.out, HB.out⟩
end Go.Proofs.Ytodldpdnhcafpaa.K

-- The way out of a function that has ranged over functions, whatever its results are
namespace Go.Proofs.Ytodldpdnhcafpaa.F
open Go.RowKit Go.Proofs.YtodldpdnhcafpaaW.PrintWords
open Go.Proofs.Ytodldpdnhcafpaa.K

/-- C: what is known of the world at the way out; it abides the taking in of a mark. -/
theorem out_marks {n : Nat} {P : Program} {fn : Func} {tmps : Array Value} {R : Ending → World → Prop} (w : World) (C : World → Prop)
    (hC : ∀ (W : World) (D : Nat), C W → w.heap.size ≤ D → W.heap[D]? = some (.deferred (some [])) → C (W.putObj D (.deferred none)))
    (hend : ∀ W, C W → ∃ v, (results fn tmps).run P W = .ok v W ∧ R (.returned v) W) :
    ∀ (ds : List Nat) (W : World), (∀ D ∈ ds, w.heap.size ≤ D ∧ W.heap[D]? = some (.deferred (some []))) → ds.Nodup → C W →
    LeavesInM Fence.wide n P fn tmps R (ds.map mark) .returning W
  | [], W, _, _, h => hend W h
  | D :: ds, W, hd, hn, h => by
    obtain ⟨h1, h2⟩ := hd D List.mem_cons_self
    refine ⟨by simp, .inl ⟨D, _, rfl, run_takeDeferred h2, ?_⟩⟩
    refine out_marks w C hC hend ds _ (fun D' hD' => ?_) (List.nodup_cons.1 hn).2 (hC W D h h1 h2)
    obtain ⟨a1, a2⟩ := hd D' (List.mem_cons_of_mem _ hD')
    exact ⟨a1, (World.putObj_heap_other (fun e => by subst e; exact (List.nodup_cons.1 hn).1 hD')).trans a2⟩
end Go.Proofs.Ytodldpdnhcafpaa.F

-- A text of this session's own program (wip/myprint.sh over a changed print tool): functions and their walks
namespace Go.Proofs.Ytodldpdnhcafpaa.F
open Go.RowKit Go.Proofs.YtodldpdnhcafpaaW.PrintWords Go.Proofs.YtodldpdnhcafpaaW.PrintLast Go.Proofs.YtodldpdnhcafpaaW.PrintMore
attribute [local go_sem] max2_int min2_int max_two min_two max_three min_three max_four min_four   -- for this text's walks alone
set_option linter.unusedVariables false
set_option linter.unusedSimpArgs false

/-! ### monikerref4_Walk: function 27 -/
mutual
def monikerref4_Walk.j0 : Nat → Int → Int → Int → Bool → List (S47) → Option (List Int)
  | 0, _, _, _, _, _ => none
  | k + 1, x1, x2, x3, x43, x192000 => if x43 = true then (some ([] : List Int)) else (if 0 ≤ x1 then (if x1 < (x192000.length : Int) then (monikerref4_Walk.l0 k x2 x3 (wrap64 (x1 + ((rd_T47 x192000 x1).f3))) ([] : List Int) x1 x192000) else (none)) else (none))
def monikerref4_Walk.l0 : Nat → Int → Int → Int → List Int → Int → List (S47) → Option (List Int)
  | 0, _, _, _, _, _, _ => none
  | k + 1, x2, x3, x9, x10, x11, x192000 => if x11 < x9 then (monikerref4_Walk.j2 k x2 x3 x9 x10 x11 ((x10.length : Int) != x3) x192000) else (monikerref4_Walk.j2 k x2 x3 x9 x10 x11 false x192000)
def monikerref4_Walk.j2 : Nat → Int → Int → Int → List Int → Int → Bool → List (S47) → Option (List Int)
  | 0, _, _, _, _, _, _, _ => none
  | k + 1, x2, x3, x9, x10, x11, x61, x192000 => if x61 = true then (if x10.length < 17592186044416 then ((some (x10 ++ [x11] : List Int)).bind fun y195 => (if (y195.length : Int) = x3 then (some y195) else (if 0 ≤ (IntKind.u64.wrap (Go.bits .and .i64 x11 63)) then (if (Go.bits .and .u64 (shr .u64 x2 (IntKind.u64.wrap (Go.bits .and .i64 x11 63))) 1) = 0 then (monikerref4_Walk.l0 k x2 x3 x9 y195 (wrap64 (x11 + 1)) x192000) else (if 0 ≤ x11 then (if x11 < (x192000.length : Int) then (if ((rd_T47 x192000 x11).f3) < 1 then (some y195) else (if ((rd_T47 x192000 x11).f3) > (wrap64 (x9 - x11)) then (some y195) else (monikerref4_Walk.l0 k x2 x3 x9 y195 (wrap64 (x11 + ((rd_T47 x192000 x11).f3))) x192000))) else (none)) else (none))) else (none)))) else (none)) else (some x10)
end
def monikerref4_Walk.f (k : Nat) (l0_0 : List (S47)) (a1 : Int) (a2 : Int) (a3 : Int) : Option (List Int) := if a1 < 0 then (monikerref4_Walk.j0 k a1 a2 a3 true l0_0) else (if a1 ≥ (l0_0.length : Int) then (monikerref4_Walk.j0 k a1 a2 a3 true l0_0) else (if 0 ≤ a1 then (if a1 < (l0_0.length : Int) then (if ((rd_T47 l0_0 a1).f3) < 1 then (monikerref4_Walk.j0 k a1 a2 a3 true l0_0) else (monikerref4_Walk.j0 k a1 a2 a3 (decide (((rd_T47 l0_0 a1).f3) > (wrap64 ((l0_0.length : Int) - a1)))) l0_0)) else (none)) else (none)))
set_option maxHeartbeats 8000000 in
set_option maxRecDepth 100000 in
theorem monikerref4_Walk.calls (k : Nat) (A0_0 : Option Addr) (c0_0 : Nat) (l0_0 : List (S47)) (a1 : Int) (a2 : Int) (a3 : Int) (r : List Int) (w : World) (hr0_0 : Kd.C k47 w A0_0 l0_0.length l0_0) (hc0_0 : l0_0.length ≤ c0_0) (h : monikerref4_Walk.f k l0_0 a1 a2 a3 = some r) :
    Calls Try.prog 27 #[.agg #[.slice A0_0 l0_0.length c0_0], .int .i64 a1, .int .u64 a2, .int .i64 a3] w fun e w' => ∃ v0_ : Value, e = .returned (v0_) ∧ Kd.R (Kd.int .i64) 3 w' w.heap.size (fun _ => True) v0_ r ∧ Below w.heap.size w w' := by
  have hu25 := Try.underlying25
  have HR0_0 := Aside0.mk hr0_0
  have HC0_0 := Aside0.mk hc0_0
  clear hr0_0 hc0_0
  have HB := Aside0.mk (Below.refl w.heap.size w)
  have H : (if a1 < 0 then (monikerref4_Walk.j0 k a1 a2 a3 true l0_0) else (if a1 ≥ (l0_0.length : Int) then (monikerref4_Walk.j0 k a1 a2 a3 true l0_0) else (if 0 ≤ a1 then (if a1 < (l0_0.length : Int) then (if ((rd_T47 l0_0 a1).f3) < 1 then (monikerref4_Walk.j0 k a1 a2 a3 true l0_0) else (monikerref4_Walk.j0 k a1 a2 a3 (decide (((rd_T47 l0_0 a1).f3) > (wrap64 ((l0_0.length : Int) - a1)))) l0_0)) else (none)) else (none)))) = some r := h
  clear h
  have HC5 := Aside0.mk H
  clear H
  go_enter Try.func27, Try.ntmps27
  go_upto_region 1 with (first | ((with_reducible refine gate_dst (N := 4) rfl ?_); (try (refine gate_guard (by rfl) ?_; dsimp only)); refine box_event ?hg (N := 4) ?hd (cs := #[.slice A0_0 l0_0.length c0_0]) (t := 25) ?hr ?_; (case hd => rfl); (case hg => rfl); (case hr => first | (go_simp; done) | (go_simp; rfl)); intro gb191 hg w6 hbox hb; have n0_ := Aside0.mk (below_step (by repeat (first | (with_reducible first | exact HB.out | apply below_alloc | apply pw_below_drewN | apply below_drew1) | exact HB.out)) hb); have n1_ := Aside0.mk (hbox); have n2_ := Aside0.mk ((by rw [hg]; exact (below_size (by repeat (first | (with_reducible first | exact HB.out | apply below_alloc | apply pw_below_drewN | apply below_drew1) | exact HB.out))) : w.heap.size ≤ gb191)); have n3_ := Aside0.mk ((by rw [hg]; exact (below_size (by repeat (first | (with_reducible first | exact HB.out | apply below_alloc | apply pw_below_drewN | apply below_drew1) | exact HB.out))) : w.heap.size ≤ gb191)); clear HB; have HB := n0_; have BK191 := n1_; have GW191 := n2_; have GE191 := n3_; clear n0_ n1_ n2_ n3_; clear hb hbox hg))
  repeat (go_quiet (first | ((with_reducible refine gate_dst (N := 4) rfl ?_); (try (refine gate_guard (by rfl) ?_; dsimp only)); refine box_event ?hg (N := 4) ?hd (cs := #[.slice A0_0 l0_0.length c0_0]) (t := 25) ?hr ?_; (case hd => rfl); (case hg => rfl); (case hr => first | (go_simp; done) | (go_simp; rfl)); intro gb191 hg w6 hbox hb; have n0_ := Aside0.mk (below_step (by repeat (first | (with_reducible first | exact HB.out | apply below_alloc | apply pw_below_drewN | apply below_drew1) | exact HB.out)) hb); have n1_ := Aside0.mk (hbox); have n2_ := Aside0.mk ((by rw [hg]; exact (below_size (by repeat (first | (with_reducible first | exact HB.out | apply below_alloc | apply pw_below_drewN | apply below_drew1) | exact HB.out))) : w.heap.size ≤ gb191)); have n3_ := Aside0.mk ((by rw [hg]; exact (below_size (by repeat (first | (with_reducible first | exact HB.out | apply below_alloc | apply pw_below_drewN | apply below_drew1) | exact HB.out))) : w.heap.size ≤ gb191)); clear HB; have HB := n0_; have BK191 := n1_; have GW191 := n2_; have GE191 := n3_; clear n0_ n1_ n2_ n3_; clear hb hbox hg)); go_upto_region 1 with (first | ((with_reducible refine gate_dst (N := 4) rfl ?_); (try (refine gate_guard (by rfl) ?_; dsimp only)); refine box_event ?hg (N := 4) ?hd (cs := #[.slice A0_0 l0_0.length c0_0]) (t := 25) ?hr ?_; (case hd => rfl); (case hg => rfl); (case hr => first | (go_simp; done) | (go_simp; rfl)); intro gb191 hg w6 hbox hb; have n0_ := Aside0.mk (below_step (by repeat (first | (with_reducible first | exact HB.out | apply below_alloc | apply pw_below_drewN | apply below_drew1) | exact HB.out)) hb); have n1_ := Aside0.mk (hbox); have n2_ := Aside0.mk ((by rw [hg]; exact (below_size (by repeat (first | (with_reducible first | exact HB.out | apply below_alloc | apply pw_below_drewN | apply below_drew1) | exact HB.out))) : w.heap.size ≤ gb191)); have n3_ := Aside0.mk ((by rw [hg]; exact (below_size (by repeat (first | (with_reducible first | exact HB.out | apply below_alloc | apply pw_below_drewN | apply below_drew1) | exact HB.out))) : w.heap.size ≤ gb191)); clear HB; have HB := n0_; have BK191 := n1_; have GW191 := n2_; have GE191 := n3_; clear n0_ n1_ n2_ n3_; clear hb hbox hg)))
  (try simp only [Act.put, List.setIfInBounds_toArray, List.set_cons_zero, List.set_cons_succ])
  go_cut [43] (fun v43 wc => ∃ (kq : Nat) (x43_4 : Bool), v43 = .bool x43_4 ∧ Aside0 (monikerref4_Walk.j0 kq a1 a2 a3 x43_4 l0_0 = some r) ∧ Aside0 (kq ≤ k) ∧ Aside0 (wc.heap[gb191]? = some (.cells #[(.slice A0_0 l0_0.length c0_0)] 25 (0, 0))) ∧ Aside0 (Below w.heap.size w wc))
  case first =>
    have H := HC5.out
    clear HC5
    by_cases c7 : a1 < 0
    · rw [if_pos c7] at H
      have c7b0 : decide (a1 < 0) = true := decide_eq_true c7
      clear c7
      (first | rw [c7b0] | (simp only [i64_w, i32_w]; rw [c7b0]) | skip)
      have H' := Aside0.mk H
      clear H
      go_wp2
      repeat (go_quiet (fail); try go_wp2)
      go_meet
      case rel => exact ⟨_, (true), (by first | rfl | (simp; done) | (simp [*]; done)), H', ⟨by first | omega | exact Nat.le_refl _⟩, ⟨by (with_reducible repeat (first | refine blk_drewN ?_ _ | refine blk_drew ?_ | refine blk_alloc ?_ _)); exact BK191.out⟩, ⟨by repeat (first | (with_reducible first | exact HB.out | apply below_alloc | apply pw_below_drewN | apply below_drew1 | refine below_set ?_ GE191.out) | exact HB.out)⟩⟩
    · rw [if_neg c7] at H
      have c7b0 : decide (a1 < 0) = false := decide_eq_false c7
      clear c7
      (first | rw [c7b0] | (simp only [i64_w, i32_w]; rw [c7b0]) | skip)
      by_cases c8 : a1 ≥ (l0_0.length : Int)
      · rw [if_pos c8] at H
        have c8b0 : decide ((l0_0.length : Int) ≤ a1) = true := decide_eq_true c8
        clear c8
        have H' := Aside0.mk H
        clear H
        have hcz9_0 : w6.cell? ⟨gb191, 0, none⟩ = some (.slice A0_0 l0_0.length c0_0) := (blk_cell BK191.out 0).trans rfl
        have hfz9_0 := blk_frozen BK191.out 0
        go_wp2
        repeat (go_quiet (fail); try go_wp2)
        go_meet
        case rel => exact ⟨_, (true), (by first | rfl | (simp; done) | (simp [*]; done)), H', ⟨by first | omega | exact Nat.le_refl _⟩, ⟨by (with_reducible repeat (first | refine blk_drewN ?_ _ | refine blk_drew ?_ | refine blk_alloc ?_ _)); exact BK191.out⟩, ⟨by repeat (first | (with_reducible first | exact HB.out | apply below_alloc | apply pw_below_drewN | apply below_drew1 | refine below_set ?_ GE191.out) | exact HB.out)⟩⟩
      · rw [if_neg c8] at H
        have c8b0 : decide ((l0_0.length : Int) ≤ a1) = false := decide_eq_false c8
        clear c8
        by_cases c10 : 0 ≤ a1
        · rw [if_pos c10] at H
          have c10b0 : decide (0 ≤ a1) = true := decide_eq_true c10
          clear c10
          by_cases c11 : a1 < (l0_0.length : Int)
          · rw [if_pos c11] at H
            have c11b0 : decide (a1 < (l0_0.length : Int)) = true := decide_eq_true c11
            clear c11
            by_cases c12 : ((rd_T47 l0_0 a1).f3) < 1
            · rw [if_pos c12] at H
              have c12b0 : decide (((rd_T47 l0_0 a1).f3) < 1) = true := decide_eq_true c12
              clear c12
              have H' := Aside0.mk H
              clear H
              have hcz13_0 : w6.cell? ⟨gb191, 0, none⟩ = some (.slice A0_0 l0_0.length c0_0) := (blk_cell BK191.out 0).trans rfl
              have hfz13_0 := blk_frozen BK191.out 0
              have p192 : 0 ≤ (a1 : Int) := of_decide_eq_true (by first | (with_reducible assumption) | assumption)
              have q192 : a1 < (l0_0.length : Int) := of_decide_eq_true (by first | (with_reducible assumption) | assumption)
              obtain ⟨ad192, e192, hx192_0, hx192_1, hx192_2, hx192_3⟩ := at_T47 HR0_0.out a1 p192 q192
              cases e192
              replace hx192_0 := (HB.out.cell (World.block_lt_of_cell? w _ hx192_0)).trans hx192_0
              replace hx192_1 := (HB.out.cell (World.block_lt_of_cell? w _ hx192_1)).trans hx192_1
              replace hx192_2 := (HB.out.cell (World.block_lt_of_cell? w _ hx192_2)).trans hx192_2
              replace hx192_3 := (HB.out.cell (World.block_lt_of_cell? w _ hx192_3)).trans hx192_3
              replace p192 := eq_true p192
              replace q192 := eq_true q192
              go_wp2
              repeat (go_quiet (fail); try go_wp2)
              go_meet
              case rel => exact ⟨_, (true), (by first | rfl | (simp; done) | (simp [*]; done)), H', ⟨by first | omega | exact Nat.le_refl _⟩, ⟨by (with_reducible repeat (first | refine blk_drewN ?_ _ | refine blk_drew ?_ | refine blk_alloc ?_ _)); exact BK191.out⟩, ⟨by repeat (first | (with_reducible first | exact HB.out | apply below_alloc | apply pw_below_drewN | apply below_drew1 | refine below_set ?_ GE191.out) | exact HB.out)⟩⟩
            · rw [if_neg c12] at H
              have c12b0 : decide (((rd_T47 l0_0 a1).f3) < 1) = false := decide_eq_false c12
              clear c12
              have H' := Aside0.mk H
              clear H
              have hcz14_0 : w6.cell? ⟨gb191, 0, none⟩ = some (.slice A0_0 l0_0.length c0_0) := (blk_cell BK191.out 0).trans rfl
              have hfz14_0 := blk_frozen BK191.out 0
              have p192 : 0 ≤ (a1 : Int) := of_decide_eq_true (by first | (with_reducible assumption) | assumption)
              have q192 : a1 < (l0_0.length : Int) := of_decide_eq_true (by first | (with_reducible assumption) | assumption)
              obtain ⟨ad192, e192, hx192_0, hx192_1, hx192_2, hx192_3⟩ := at_T47 HR0_0.out a1 p192 q192
              cases e192
              replace hx192_0 := (HB.out.cell (World.block_lt_of_cell? w _ hx192_0)).trans hx192_0
              replace hx192_1 := (HB.out.cell (World.block_lt_of_cell? w _ hx192_1)).trans hx192_1
              replace hx192_2 := (HB.out.cell (World.block_lt_of_cell? w _ hx192_2)).trans hx192_2
              replace hx192_3 := (HB.out.cell (World.block_lt_of_cell? w _ hx192_3)).trans hx192_3
              replace p192 := eq_true p192
              replace q192 := eq_true q192
              have p193 : 0 ≤ (a1 : Int) := of_decide_eq_true (by first | (with_reducible assumption) | assumption)
              have q193 : a1 < (l0_0.length : Int) := of_decide_eq_true (by first | (with_reducible assumption) | assumption)
              obtain ⟨ad193, e193, hx193_0, hx193_1, hx193_2, hx193_3⟩ := at_T47 HR0_0.out a1 p193 q193
              obtain rfl : ad192 = ad193 := (by injection e193)
              replace hx193_0 := (HB.out.cell (World.block_lt_of_cell? w _ hx193_0)).trans hx193_0
              replace hx193_1 := (HB.out.cell (World.block_lt_of_cell? w _ hx193_1)).trans hx193_1
              replace hx193_2 := (HB.out.cell (World.block_lt_of_cell? w _ hx193_2)).trans hx193_2
              replace hx193_3 := (HB.out.cell (World.block_lt_of_cell? w _ hx193_3)).trans hx193_3
              replace p193 := eq_true p193
              replace q193 := eq_true q193
              go_wp2
              repeat (go_quiet (fail); try go_wp2)
              go_meet
              case rel => exact ⟨_, (decide (((rd_T47 l0_0 a1).f3) > (wrap64 ((l0_0.length : Int) - a1)))), (by first | rfl | (simp; done) | (simp [*]; done)), H', ⟨by first | omega | exact Nat.le_refl _⟩, ⟨by (with_reducible repeat (first | refine blk_drewN ?_ _ | refine blk_drew ?_ | refine blk_alloc ?_ _)); exact BK191.out⟩, ⟨by repeat (first | (with_reducible first | exact HB.out | apply below_alloc | apply pw_below_drewN | apply below_drew1 | refine below_set ?_ GE191.out) | exact HB.out)⟩⟩
          · rw [if_neg c11] at H
            exact absurd H (by simp)
        · rw [if_neg c10] at H
          exact absurd H (by simp)
  case rest =>
    clear HC5
    try clear c1
    try clear p1
    try clear q1
    try clear hx1
    try clear c2
    try clear p2
    try clear p6
    try clear c7
    try clear c7b0
    try clear c8
    try clear c8b0
    try clear c10
    try clear c10b0
    try clear c11
    try clear c11b0
    try clear c12
    try clear c12b0
    try clear hcz13_0
    try clear hcz14_0
    try clear hcz9_0
    try clear hfz13_0
    try clear hfz14_0
    try clear hfz9_0
    try clear hx192_0
    try clear hx192_1
    try clear hx192_2
    try clear hx192_3
    try clear hx193_0
    try clear hx193_1
    try clear hx193_2
    try clear hx193_3
    try clear p192
    try clear p193
    try clear q192
    try clear q193
    obtain ⟨kq, x43_4, rfl, HA, HJ4, BK191, HB⟩ := hcut
    cases kq with
    | zero => exact absurd HA.out (by simp [monikerref4_Walk.j0])
    | succ kj4 =>
      have H := HA.out
      clear HA
      simp only [monikerref4_Walk.j0] at H
      by_cases c15 : x43_4 = true
      · subst c15
        have H1 : (some ([] : List Int)) = some r := by rw [if_pos rfl] at H; exact H
        clear H
        have H := H1
        clear H1
        obtain rfl := Option.some.inj H
        go_wp2
        repeat (go_quiet (fail); try go_wp2)
        go_ret
        exact ⟨_, by first | rfl | (simp [errW_none, errW_some] <;> rfl) | (simp [*, errW_none, errW_some] <;> rfl), by first | exact Kd.R_nil _ _ _ _ _ | exact Kd.N_nil _ _ _ _ _ | exact Kd.V_nil _ _ _ _ _ | exact Kd.Q_nil _ _ _ _ _ | exact Kd.S_nil _ _ _ _ _, by repeat (first | (with_reducible first | exact HB.out | apply below_alloc | apply pw_below_drewN | apply below_drew1 | refine below_set ?_ GE191.out) | exact HB.out)⟩
      · replace c15 := Bool.eq_false_iff.mpr c15
        subst c15
        have H1 : (if 0 ≤ a1 then (if a1 < (l0_0.length : Int) then (monikerref4_Walk.l0 kj4 a2 a3 (wrap64 (a1 + ((rd_T47 l0_0 a1).f3))) ([] : List Int) a1 l0_0) else (none)) else (none)) = some r := by rw [if_neg (show ¬ (false = true) by decide)] at H; exact H
        clear H
        have H := H1
        clear H1
        by_cases c16 : 0 ≤ a1
        · rw [if_pos c16] at H
          have c16b0 : decide (0 ≤ a1) = true := decide_eq_true c16
          clear c16
          by_cases c17 : a1 < (l0_0.length : Int)
          · rw [if_pos c17] at H
            have c17b0 : decide (a1 < (l0_0.length : Int)) = true := decide_eq_true c17
            clear c17
            have H' := Aside0.mk H
            clear H
            have hcz18_0 : wc.cell? ⟨gb191, 0, none⟩ = some (.slice A0_0 l0_0.length c0_0) := (blk_cell BK191.out 0).trans rfl
            have hfz18_0 := blk_frozen BK191.out 0
            have p194 : 0 ≤ (a1 : Int) := of_decide_eq_true (by first | (with_reducible assumption) | assumption)
            have q194 : a1 < (l0_0.length : Int) := of_decide_eq_true (by first | (with_reducible assumption) | assumption)
            obtain ⟨ad194, e194, hx194_0, hx194_1, hx194_2, hx194_3⟩ := at_T47 HR0_0.out a1 p194 q194
            cases e194
            replace hx194_0 := (HB.out.cell (World.block_lt_of_cell? w _ hx194_0)).trans hx194_0
            replace hx194_1 := (HB.out.cell (World.block_lt_of_cell? w _ hx194_1)).trans hx194_1
            replace hx194_2 := (HB.out.cell (World.block_lt_of_cell? w _ hx194_2)).trans hx194_2
            replace hx194_3 := (HB.out.cell (World.block_lt_of_cell? w _ hx194_3)).trans hx194_3
            replace p194 := eq_true p194
            replace q194 := eq_true q194
            go_wp2
            repeat (go_quiet (fail); try go_wp2)
            go_loopg [10, 11] kj4 (fun kq v10 v11 w' => ∃ (x10_2 : List Int) (x11_2 : Int), v11 = .int .i64 x11_2 ∧ Aside0 (monikerref4_Walk.l0 kq a2 a3 (wrap64 (a1 + ((rd_T47 l0_0 a1).f3))) x10_2 x11_2 l0_0 = some r) ∧ Aside0 (kq ≤ kj4) ∧ Aside0 (Kd.R (Kd.int .i64) 3 w' w.heap.size (fun _ => True) v10 x10_2) ∧ Aside0 (w'.heap[gb191]? = some (.cells #[(.slice (some ad194) l0_0.length c0_0)] 25 (0, 0))) ∧ Aside0 (Below w.heap.size w w'))
            case atStart => exact ⟨(([] : List Int)), (a1), (by first | rfl | (simp; done) | (simp [*]; done)), H', ⟨Nat.le_refl _⟩, ⟨by first | exact Kd.R_nil _ _ _ _ _ | exact Kd.N_nil _ _ _ _ _ | exact Kd.V_nil _ _ _ _ _ | exact Kd.Q_nil _ _ _ _ _ | exact Kd.S_nil _ _ _ _ _⟩, ⟨by (with_reducible repeat (first | refine blk_drewN ?_ _ | refine blk_drew ?_ | refine blk_alloc ?_ _)); exact BK191.out⟩, ⟨by repeat (first | (with_reducible first | exact HB.out | apply below_alloc | apply pw_below_drewN | apply below_drew1 | refine below_set ?_ GE191.out) | exact HB.out)⟩⟩
            case round =>
              clear H'
              try clear c1
              try clear p1
              try clear q1
              try clear hx1
              try clear c2
              try clear p2
              try clear p6
              try clear c7
              try clear c7b0
              try clear c8
              try clear c8b0
              try clear c10
              try clear c10b0
              try clear c11
              try clear c11b0
              try clear c12
              try clear c12b0
              try clear c15
              try clear c16
              try clear c16b0
              try clear c17
              try clear c17b0
              try clear hcz13_0
              try clear hcz14_0
              try clear hcz18_0
              try clear hcz9_0
              try clear hfz13_0
              try clear hfz14_0
              try clear hfz18_0
              try clear hfz9_0
              try clear hx192_0
              try clear hx192_1
              try clear hx192_2
              try clear hx192_3
              try clear hx193_0
              try clear hx193_1
              try clear hx193_2
              try clear hx193_3
              try clear hx194_0
              try clear hx194_1
              try clear hx194_2
              try clear hx194_3
              try clear p1
              try clear p192
              try clear p193
              try clear p194
              try clear p2
              try clear p6
              try clear q1
              try clear q192
              try clear q193
              try clear q194
              obtain ⟨x10_2, x11_2, rfl, HA, HK2, HO_10, BK191, HB⟩ := hrel
              cases gk with
              | zero => exact absurd HA.out (by simp [monikerref4_Walk.l0])
              | succ k2 =>
                have H := HA.out
                clear HA
                simp only [monikerref4_Walk.l0] at H
                have HC19 := Aside0.mk H
                clear H
                go_upto_region 6 with (fail)
                repeat (go_quiet (fail); go_upto_region 6 with (fail))
                go_cut [61] (fun v61 wc => ∃ (kq : Nat) (x61_18 : Bool), v61 = .bool x61_18 ∧ Aside0 (monikerref4_Walk.j2 kq a2 a3 (wrap64 (a1 + ((rd_T47 l0_0 a1).f3))) x10_2 x11_2 x61_18 l0_0 = some r) ∧ Aside0 (kq ≤ k2) ∧ Aside0 (Kd.R (Kd.int .i64) 3 wc w.heap.size (fun _ => True) u10 x10_2) ∧ Aside0 (wc.heap[gb191]? = some (.cells #[(.slice (some ad194) l0_0.length c0_0)] 25 (0, 0))) ∧ Aside0 (Below w.heap.size w wc))
                case first =>
                  have H := HC19.out
                  clear HC19
                  by_cases c20 : x11_2 < (wrap64 (a1 + ((rd_T47 l0_0 a1).f3)))
                  · rw [if_pos c20] at H
                    have c20b0 : decide (x11_2 < (wrap64 (a1 + ((rd_T47 l0_0 a1).f3)))) = true := decide_eq_true c20
                    clear c20
                    (first | rw [c20b0] | (simp only [i64_w, i32_w]; rw [c20b0]) | skip)
                    have H' := Aside0.mk H
                    clear H
                    obtain ⟨Ao21, co21, eo21⟩ := Kd.R_slice HO_10.out
                    subst eo21
                    go_wp2
                    repeat (go_quiet (fail); try go_wp2)
                    go_meet
                    case rel => exact ⟨_, (((x10_2.length : Int) != a3)), (by first | rfl | (simp; done) | (simp [*]; done)), H', ⟨by have := HJ4.out; have := HK2.out; first | omega | exact Nat.le_refl _⟩, ⟨by (with_reducible repeat (first | apply Kd.R_alloc | apply Kd.R_drewN | apply Kd.R_drew)); exact HO_10.out⟩, ⟨by (with_reducible repeat (first | refine blk_drewN ?_ _ | refine blk_drew ?_ | refine blk_alloc ?_ _)); exact BK191.out⟩, ⟨by repeat (first | (with_reducible first | exact HB.out | apply below_alloc | apply pw_below_drewN | apply below_drew1 | refine below_set ?_ GE191.out) | exact HB.out)⟩⟩
                  · rw [if_neg c20] at H
                    have c20b0 : decide (x11_2 < (wrap64 (a1 + ((rd_T47 l0_0 a1).f3)))) = false := decide_eq_false c20
                    clear c20
                    (first | rw [c20b0] | (simp only [i64_w, i32_w]; rw [c20b0]) | skip)
                    have H' := Aside0.mk H
                    clear H
                    go_wp2
                    repeat (go_quiet (fail); try go_wp2)
                    go_meet
                    case rel => exact ⟨_, (false), (by first | rfl | (simp; done) | (simp [*]; done)), H', ⟨by have := HJ4.out; have := HK2.out; first | omega | exact Nat.le_refl _⟩, ⟨by (with_reducible repeat (first | apply Kd.R_alloc | apply Kd.R_drewN | apply Kd.R_drew)); exact HO_10.out⟩, ⟨by (with_reducible repeat (first | refine blk_drewN ?_ _ | refine blk_drew ?_ | refine blk_alloc ?_ _)); exact BK191.out⟩, ⟨by repeat (first | (with_reducible first | exact HB.out | apply below_alloc | apply pw_below_drewN | apply below_drew1 | refine below_set ?_ GE191.out) | exact HB.out)⟩⟩
                case rest =>
                  clear HC19
                  try clear c1
                  try clear p1
                  try clear q1
                  try clear hx1
                  try clear c2
                  try clear p2
                  try clear p6
                  try clear c7
                  try clear c7b0
                  try clear c8
                  try clear c8b0
                  try clear c10
                  try clear c10b0
                  try clear c11
                  try clear c11b0
                  try clear c12
                  try clear c12b0
                  try clear c15
                  try clear c16
                  try clear c16b0
                  try clear c17
                  try clear c17b0
                  try clear p19
                  try clear q19
                  try clear hx19
                  try clear c20
                  try clear c20b0
                  try clear hcz13_0
                  try clear hcz14_0
                  try clear hcz18_0
                  try clear hcz9_0
                  try clear hfz13_0
                  try clear hfz14_0
                  try clear hfz18_0
                  try clear hfz9_0
                  try clear hx192_0
                  try clear hx192_1
                  try clear hx192_2
                  try clear hx192_3
                  try clear hx193_0
                  try clear hx193_1
                  try clear hx193_2
                  try clear hx193_3
                  try clear hx194_0
                  try clear hx194_1
                  try clear hx194_2
                  try clear hx194_3
                  try clear p1
                  try clear p192
                  try clear p193
                  try clear p194
                  try clear p2
                  try clear p6
                  try clear q1
                  try clear q192
                  try clear q193
                  try clear q194
                  obtain ⟨kq, x61_18, rfl, HA, HJ18, HO_10, BK191, HB⟩ := hcut
                  cases kq with
                  | zero => exact absurd HA.out (by simp [monikerref4_Walk.j2])
                  | succ kj18 =>
                    have H := HA.out
                    clear HA
                    simp only [monikerref4_Walk.j2] at H
                    by_cases c22 : x61_18 = true
                    · subst c22
                      have H1 : (if x10_2.length < 17592186044416 then ((some (x10_2 ++ [x11_2] : List Int)).bind fun y195 => (if (y195.length : Int) = a3 then (some y195) else (if 0 ≤ (IntKind.u64.wrap (Go.bits .and .i64 x11_2 63)) then (if (Go.bits .and .u64 (shr .u64 a2 (IntKind.u64.wrap (Go.bits .and .i64 x11_2 63))) 1) = 0 then (monikerref4_Walk.l0 kj18 a2 a3 (wrap64 (a1 + ((rd_T47 l0_0 a1).f3))) y195 (wrap64 (x11_2 + 1)) l0_0) else (if 0 ≤ x11_2 then (if x11_2 < (l0_0.length : Int) then (if ((rd_T47 l0_0 x11_2).f3) < 1 then (some y195) else (if ((rd_T47 l0_0 x11_2).f3) > (wrap64 ((wrap64 (a1 + ((rd_T47 l0_0 a1).f3))) - x11_2)) then (some y195) else (monikerref4_Walk.l0 kj18 a2 a3 (wrap64 (a1 + ((rd_T47 l0_0 a1).f3))) y195 (wrap64 (x11_2 + ((rd_T47 l0_0 x11_2).f3))) l0_0))) else (none)) else (none))) else (none)))) else (none)) = some r := by rw [if_pos rfl] at H; exact H
                      clear H
                      have H := H1
                      clear H1
                      by_cases c23 : x10_2.length < 17592186044416
                      · rw [if_pos c23] at H
                        have LMc23 := Aside0.mk c23
                        clear c23
                        obtain ⟨y195, hy195⟩ : ∃ y_ : List Int, y_ = (x10_2 ++ [x11_2]) := ⟨_, rfl⟩
                        replace H : (if (y195.length : Int) = a3 then (some y195) else (if 0 ≤ (IntKind.u64.wrap (Go.bits .and .i64 x11_2 63)) then (if (Go.bits .and .u64 (shr .u64 a2 (IntKind.u64.wrap (Go.bits .and .i64 x11_2 63))) 1) = 0 then (monikerref4_Walk.l0 kj18 a2 a3 (wrap64 (a1 + ((rd_T47 l0_0 a1).f3))) y195 (wrap64 (x11_2 + 1)) l0_0) else (if 0 ≤ x11_2 then (if x11_2 < (l0_0.length : Int) then (if ((rd_T47 l0_0 x11_2).f3) < 1 then (some y195) else (if ((rd_T47 l0_0 x11_2).f3) > (wrap64 ((wrap64 (a1 + ((rd_T47 l0_0 a1).f3))) - x11_2)) then (some y195) else (monikerref4_Walk.l0 kj18 a2 a3 (wrap64 (a1 + ((rd_T47 l0_0 a1).f3))) y195 (wrap64 (x11_2 + ((rd_T47 l0_0 x11_2).f3))) l0_0))) else (none)) else (none))) else (none))) = some r := by first | (rw [hy195]; with_reducible exact H) | (have H2_ := (Option.bind_some _ _).symm.trans H; rw [hy195]; with_reducible exact H2_) | (have H2_ := (Option.bind_some _ _).symm.trans H; with_reducible exact H2_) | with_reducible exact H | (rw [hy195]; exact H) | exact H
                        have Ny195 := Aside0.mk hy195
                        clear hy195
                        by_cases c24 : (y195.length : Int) = a3
                        · rw [if_pos c24] at H
                          have c24b0 : ((y195.length : Int) == a3) = true := beq_iff_eq.mpr c24
                          have c24b1 : ((y195.length : Int) != a3) = false := bne_eq_false_iff_eq.mpr c24
                          clear c24
                          obtain rfl := Option.some.inj H
                          go_wp2_with (first | ((with_reducible refine gate_builtin (b := .append) (xs := #[.tmp 62, .tmp 64]) rfl ?_); (try (refine gate_guard (by rfl) ?_; dsimp only)); at_builtin; refine Kd.R_append (Kd.int .i64) (w0 := w) w.heap.size rfl (.tmp 62) (.tmp 64) 33 3 (.int .i64 0) 8 rfl Try.underlying33 info3 rfl (by decide) (by omega) u10 x10_2 x11_2 [.int .i64 x11_2] (fun _ => True) (fun _ => False) rfl rfl ?aP (fun _ hk => hk.elim) ?aF ?aO ?aB ?aS ?aL ?_; (case aP => exact rfl); (case aB => exact (by repeat (first | (with_reducible first | exact HB.out | apply below_alloc | apply pw_below_drewN | apply below_drew1 | refine below_set ?_ GE191.out) | exact HB.out))); (case aF => exact (fun _ _ => trivial)); (case aO => exact (by (with_reducible repeat (first | apply Kd.R_alloc | apply Kd.R_drewN | apply Kd.R_drew)); exact HO_10.out)); (case aS => exact (below_size (by repeat (first | (with_reducible first | exact HB.out | apply below_alloc | apply pw_below_drewN | apply below_drew1 | refine below_set ?_ GE191.out) | exact HB.out)))); (case aL => have := LMc23.out; omega); intro v196 w25 ho hb hg hat; rw [← Ny195.out] at ho; have n0_ := Aside0.mk (blk_grown (g := gb191) (o := .cells #[.slice (some ad194) l0_0.length c0_0] 25 (0, 0)) (by (with_reducible repeat (first | refine blk_drewN ?_ _ | refine blk_drew ?_ | refine blk_alloc ?_ _)); exact BK191.out) hg (Kd.R_ne HO_10.out BK191.out (by decide))); have n1_ := Aside0.mk (hb); have n2_ := Aside0.mk (ho); clear BK191; clear HB; clear HO_10; have BK191 := n0_; have HB := n1_; have HO197 := n2_; clear n0_ n1_ n2_; clear ho hb hg hat; obtain ⟨Ao26, co26, eo26⟩ := Kd.R_slice HO197.out; subst eo26))
                          repeat (go_quiet (first | ((with_reducible refine gate_builtin (b := .append) (xs := #[.tmp 62, .tmp 64]) rfl ?_); (try (refine gate_guard (by rfl) ?_; dsimp only)); at_builtin; refine Kd.R_append (Kd.int .i64) (w0 := w) w.heap.size rfl (.tmp 62) (.tmp 64) 33 3 (.int .i64 0) 8 rfl Try.underlying33 info3 rfl (by decide) (by omega) u10 x10_2 x11_2 [.int .i64 x11_2] (fun _ => True) (fun _ => False) rfl rfl ?aP (fun _ hk => hk.elim) ?aF ?aO ?aB ?aS ?aL ?_; (case aP => exact rfl); (case aB => exact (by repeat (first | (with_reducible first | exact HB.out | apply below_alloc | apply pw_below_drewN | apply below_drew1 | refine below_set ?_ GE191.out) | exact HB.out))); (case aF => exact (fun _ _ => trivial)); (case aO => exact (by (with_reducible repeat (first | apply Kd.R_alloc | apply Kd.R_drewN | apply Kd.R_drew)); exact HO_10.out)); (case aS => exact (below_size (by repeat (first | (with_reducible first | exact HB.out | apply below_alloc | apply pw_below_drewN | apply below_drew1 | refine below_set ?_ GE191.out) | exact HB.out)))); (case aL => have := LMc23.out; omega); intro v196 w25 ho hb hg hat; rw [← Ny195.out] at ho; have n0_ := Aside0.mk (blk_grown (g := gb191) (o := .cells #[.slice (some ad194) l0_0.length c0_0] 25 (0, 0)) (by (with_reducible repeat (first | refine blk_drewN ?_ _ | refine blk_drew ?_ | refine blk_alloc ?_ _)); exact BK191.out) hg (Kd.R_ne HO_10.out BK191.out (by decide))); have n1_ := Aside0.mk (hb); have n2_ := Aside0.mk (ho); clear BK191; clear HB; clear HO_10; have BK191 := n0_; have HB := n1_; have HO197 := n2_; clear n0_ n1_ n2_; clear ho hb hg hat; obtain ⟨Ao26, co26, eo26⟩ := Kd.R_slice HO197.out; subst eo26)); try go_wp2_with (first | ((with_reducible refine gate_builtin (b := .append) (xs := #[.tmp 62, .tmp 64]) rfl ?_); (try (refine gate_guard (by rfl) ?_; dsimp only)); at_builtin; refine Kd.R_append (Kd.int .i64) (w0 := w) w.heap.size rfl (.tmp 62) (.tmp 64) 33 3 (.int .i64 0) 8 rfl Try.underlying33 info3 rfl (by decide) (by omega) u10 x10_2 x11_2 [.int .i64 x11_2] (fun _ => True) (fun _ => False) rfl rfl ?aP (fun _ hk => hk.elim) ?aF ?aO ?aB ?aS ?aL ?_; (case aP => exact rfl); (case aB => exact (by repeat (first | (with_reducible first | exact HB.out | apply below_alloc | apply pw_below_drewN | apply below_drew1 | refine below_set ?_ GE191.out) | exact HB.out))); (case aF => exact (fun _ _ => trivial)); (case aO => exact (by (with_reducible repeat (first | apply Kd.R_alloc | apply Kd.R_drewN | apply Kd.R_drew)); exact HO_10.out)); (case aS => exact (below_size (by repeat (first | (with_reducible first | exact HB.out | apply below_alloc | apply pw_below_drewN | apply below_drew1 | refine below_set ?_ GE191.out) | exact HB.out)))); (case aL => have := LMc23.out; omega); intro v196 w25 ho hb hg hat; rw [← Ny195.out] at ho; have n0_ := Aside0.mk (blk_grown (g := gb191) (o := .cells #[.slice (some ad194) l0_0.length c0_0] 25 (0, 0)) (by (with_reducible repeat (first | refine blk_drewN ?_ _ | refine blk_drew ?_ | refine blk_alloc ?_ _)); exact BK191.out) hg (Kd.R_ne HO_10.out BK191.out (by decide))); have n1_ := Aside0.mk (hb); have n2_ := Aside0.mk (ho); clear BK191; clear HB; clear HO_10; have BK191 := n0_; have HB := n1_; have HO197 := n2_; clear n0_ n1_ n2_; clear ho hb hg hat; obtain ⟨Ao26, co26, eo26⟩ := Kd.R_slice HO197.out; subst eo26)))
                          go_ret
                          exact ⟨_, by first | rfl | (simp [errW_none, errW_some] <;> rfl) | (simp [*, errW_none, errW_some] <;> rfl), by (with_reducible repeat (first | apply Kd.R_alloc | apply Kd.R_drewN | apply Kd.R_drew)); exact HO197.out, by repeat (first | (with_reducible first | exact HB.out | apply below_alloc | apply pw_below_drewN | apply below_drew1 | refine below_set ?_ GE191.out) | exact HB.out)⟩
                        · rw [if_neg c24] at H
                          have c24b0 : ((y195.length : Int) == a3) = false := beq_eq_false_iff_ne.mpr c24
                          have c24b1 : ((y195.length : Int) != a3) = true := bne_iff_ne.mpr c24
                          obtain ⟨ji27, hji27⟩ : ∃ j_ : Int, (IntKind.u64.wrap (Go.bits .and .i64 x11_2 63)) = j_ := ⟨_, rfl⟩
                          replace H : (if 0 ≤ (ji27) then (if (Go.bits .and .u64 (shr .u64 a2 (ji27)) 1) = 0 then (monikerref4_Walk.l0 kj18 a2 a3 (wrap64 (a1 + ((rd_T47 l0_0 a1).f3))) y195 (wrap64 (x11_2 + 1)) l0_0) else (if 0 ≤ x11_2 then (if x11_2 < (l0_0.length : Int) then (if ((rd_T47 l0_0 x11_2).f3) < 1 then (some y195) else (if ((rd_T47 l0_0 x11_2).f3) > (wrap64 ((wrap64 (a1 + ((rd_T47 l0_0 a1).f3))) - x11_2)) then (some y195) else (monikerref4_Walk.l0 kj18 a2 a3 (wrap64 (a1 + ((rd_T47 l0_0 a1).f3))) y195 (wrap64 (x11_2 + ((rd_T47 l0_0 x11_2).f3))) l0_0))) else (none)) else (none))) else (none)) = some r := by first | (rw [hji27] at H; exact H) | (simp only [hji27] at H ⊢; exact H)
                          by_cases c28 : 0 ≤ (ji27)
                          · rw [if_pos c28] at H
                            have c28b0 := eq_true c28
                            have c28b1 : decide (0 ≤ (ji27)) = true := decide_eq_true c28
                            clear c28
                            obtain ⟨ji29, hji29⟩ : ∃ j_ : Int, (shr .u64 a2 (ji27)) = j_ := ⟨_, rfl⟩
                            replace H : (if (Go.bits .and .u64 (ji29) 1) = 0 then (monikerref4_Walk.l0 kj18 a2 a3 (wrap64 (a1 + ((rd_T47 l0_0 a1).f3))) y195 (wrap64 (x11_2 + 1)) l0_0) else (if 0 ≤ x11_2 then (if x11_2 < (l0_0.length : Int) then (if ((rd_T47 l0_0 x11_2).f3) < 1 then (some y195) else (if ((rd_T47 l0_0 x11_2).f3) > (wrap64 ((wrap64 (a1 + ((rd_T47 l0_0 a1).f3))) - x11_2)) then (some y195) else (monikerref4_Walk.l0 kj18 a2 a3 (wrap64 (a1 + ((rd_T47 l0_0 a1).f3))) y195 (wrap64 (x11_2 + ((rd_T47 l0_0 x11_2).f3))) l0_0))) else (none)) else (none))) = some r := by first | (rw [hji29] at H; exact H) | (simp only [hji29] at H ⊢; exact H)
                            have hji29_ : (a2 / 2 ^ min (ji27).toNat 64) = ji29 := hji29
                            have hji29z : (ji27) ≤ 64 → (a2 / 2 ^ (ji27).toNat) = ji29 := shr_small hji29
                            by_cases c30 : (Go.bits .and .u64 (ji29) 1) = 0
                            · rw [if_pos c30] at H
                              have c30b0 : ((Go.bits .and .u64 (ji29) 1) == 0) = true := beq_iff_eq.mpr c30
                              have c30b1 : ((Go.bits .and .u64 (ji29) 1) != 0) = false := bne_eq_false_iff_eq.mpr c30
                              clear c30
                              have H' := Aside0.mk H
                              clear H
                              go_wp2_with (first | ((with_reducible refine gate_builtin (b := .append) (xs := #[.tmp 62, .tmp 64]) rfl ?_); (try (refine gate_guard (by rfl) ?_; dsimp only)); at_builtin; refine Kd.R_append (Kd.int .i64) (w0 := w) w.heap.size rfl (.tmp 62) (.tmp 64) 33 3 (.int .i64 0) 8 rfl Try.underlying33 info3 rfl (by decide) (by omega) u10 x10_2 x11_2 [.int .i64 x11_2] (fun _ => True) (fun _ => False) rfl rfl ?aP (fun _ hk => hk.elim) ?aF ?aO ?aB ?aS ?aL ?_; (case aP => exact rfl); (case aB => exact (by repeat (first | (with_reducible first | exact HB.out | apply below_alloc | apply pw_below_drewN | apply below_drew1 | refine below_set ?_ GE191.out) | exact HB.out))); (case aF => exact (fun _ _ => trivial)); (case aO => exact (by (with_reducible repeat (first | apply Kd.R_alloc | apply Kd.R_drewN | apply Kd.R_drew)); exact HO_10.out)); (case aS => exact (below_size (by repeat (first | (with_reducible first | exact HB.out | apply below_alloc | apply pw_below_drewN | apply below_drew1 | refine below_set ?_ GE191.out) | exact HB.out)))); (case aL => have := LMc23.out; omega); intro v196 w31 ho hb hg hat; rw [← Ny195.out] at ho; have n0_ := Aside0.mk (blk_grown (g := gb191) (o := .cells #[.slice (some ad194) l0_0.length c0_0] 25 (0, 0)) (by (with_reducible repeat (first | refine blk_drewN ?_ _ | refine blk_drew ?_ | refine blk_alloc ?_ _)); exact BK191.out) hg (Kd.R_ne HO_10.out BK191.out (by decide))); have n1_ := Aside0.mk (hb); have n2_ := Aside0.mk (ho); clear BK191; clear HB; clear HO_10; have BK191 := n0_; have HB := n1_; have HO197 := n2_; clear n0_ n1_ n2_; clear ho hb hg hat; obtain ⟨Ao32, co32, eo32⟩ := Kd.R_slice HO197.out; subst eo32))
                              repeat (go_quiet (first | ((with_reducible refine gate_builtin (b := .append) (xs := #[.tmp 62, .tmp 64]) rfl ?_); (try (refine gate_guard (by rfl) ?_; dsimp only)); at_builtin; refine Kd.R_append (Kd.int .i64) (w0 := w) w.heap.size rfl (.tmp 62) (.tmp 64) 33 3 (.int .i64 0) 8 rfl Try.underlying33 info3 rfl (by decide) (by omega) u10 x10_2 x11_2 [.int .i64 x11_2] (fun _ => True) (fun _ => False) rfl rfl ?aP (fun _ hk => hk.elim) ?aF ?aO ?aB ?aS ?aL ?_; (case aP => exact rfl); (case aB => exact (by repeat (first | (with_reducible first | exact HB.out | apply below_alloc | apply pw_below_drewN | apply below_drew1 | refine below_set ?_ GE191.out) | exact HB.out))); (case aF => exact (fun _ _ => trivial)); (case aO => exact (by (with_reducible repeat (first | apply Kd.R_alloc | apply Kd.R_drewN | apply Kd.R_drew)); exact HO_10.out)); (case aS => exact (below_size (by repeat (first | (with_reducible first | exact HB.out | apply below_alloc | apply pw_below_drewN | apply below_drew1 | refine below_set ?_ GE191.out) | exact HB.out)))); (case aL => have := LMc23.out; omega); intro v196 w31 ho hb hg hat; rw [← Ny195.out] at ho; have n0_ := Aside0.mk (blk_grown (g := gb191) (o := .cells #[.slice (some ad194) l0_0.length c0_0] 25 (0, 0)) (by (with_reducible repeat (first | refine blk_drewN ?_ _ | refine blk_drew ?_ | refine blk_alloc ?_ _)); exact BK191.out) hg (Kd.R_ne HO_10.out BK191.out (by decide))); have n1_ := Aside0.mk (hb); have n2_ := Aside0.mk (ho); clear BK191; clear HB; clear HO_10; have BK191 := n0_; have HB := n1_; have HO197 := n2_; clear n0_ n1_ n2_; clear ho hb hg hat; obtain ⟨Ao32, co32, eo32⟩ := Kd.R_slice HO197.out; subst eo32)); try go_wp2_with (first | ((with_reducible refine gate_builtin (b := .append) (xs := #[.tmp 62, .tmp 64]) rfl ?_); (try (refine gate_guard (by rfl) ?_; dsimp only)); at_builtin; refine Kd.R_append (Kd.int .i64) (w0 := w) w.heap.size rfl (.tmp 62) (.tmp 64) 33 3 (.int .i64 0) 8 rfl Try.underlying33 info3 rfl (by decide) (by omega) u10 x10_2 x11_2 [.int .i64 x11_2] (fun _ => True) (fun _ => False) rfl rfl ?aP (fun _ hk => hk.elim) ?aF ?aO ?aB ?aS ?aL ?_; (case aP => exact rfl); (case aB => exact (by repeat (first | (with_reducible first | exact HB.out | apply below_alloc | apply pw_below_drewN | apply below_drew1 | refine below_set ?_ GE191.out) | exact HB.out))); (case aF => exact (fun _ _ => trivial)); (case aO => exact (by (with_reducible repeat (first | apply Kd.R_alloc | apply Kd.R_drewN | apply Kd.R_drew)); exact HO_10.out)); (case aS => exact (below_size (by repeat (first | (with_reducible first | exact HB.out | apply below_alloc | apply pw_below_drewN | apply below_drew1 | refine below_set ?_ GE191.out) | exact HB.out)))); (case aL => have := LMc23.out; omega); intro v196 w31 ho hb hg hat; rw [← Ny195.out] at ho; have n0_ := Aside0.mk (blk_grown (g := gb191) (o := .cells #[.slice (some ad194) l0_0.length c0_0] 25 (0, 0)) (by (with_reducible repeat (first | refine blk_drewN ?_ _ | refine blk_drew ?_ | refine blk_alloc ?_ _)); exact BK191.out) hg (Kd.R_ne HO_10.out BK191.out (by decide))); have n1_ := Aside0.mk (hb); have n2_ := Aside0.mk (ho); clear BK191; clear HB; clear HO_10; have BK191 := n0_; have HB := n1_; have HO197 := n2_; clear n0_ n1_ n2_; clear ho hb hg hat; obtain ⟨Ao32, co32, eo32⟩ := Kd.R_slice HO197.out; subst eo32)))
                              go_roundg kj18
                              case measure => have := HJ4.out; have := HK2.out; have := HJ18.out; omega
                              case rel => exact ⟨(y195), (wrap64 (x11_2 + 1)), (by first | rfl | (simp; done) | (simp [*]; done)), H', ⟨by have := HJ4.out; have := HK2.out; have := HJ18.out; omega⟩, ⟨by (with_reducible repeat (first | apply Kd.R_alloc | apply Kd.R_drewN | apply Kd.R_drew)); exact HO197.out⟩, ⟨by (with_reducible repeat (first | refine blk_drewN ?_ _ | refine blk_drew ?_ | refine blk_alloc ?_ _)); exact BK191.out⟩, ⟨by repeat (first | (with_reducible first | exact HB.out | apply below_alloc | apply pw_below_drewN | apply below_drew1 | refine below_set ?_ GE191.out) | exact HB.out)⟩⟩
                            · rw [if_neg c30] at H
                              have c30b0 : ((Go.bits .and .u64 (ji29) 1) == 0) = false := beq_eq_false_iff_ne.mpr c30
                              have c30b1 : ((Go.bits .and .u64 (ji29) 1) != 0) = true := bne_iff_ne.mpr c30
                              by_cases c33 : 0 ≤ x11_2
                              · rw [if_pos c33] at H
                                have c33b0 : decide (0 ≤ x11_2) = true := decide_eq_true c33
                                clear c33
                                by_cases c34 : x11_2 < (l0_0.length : Int)
                                · rw [if_pos c34] at H
                                  have c34b0 : decide (x11_2 < (l0_0.length : Int)) = true := decide_eq_true c34
                                  clear c34
                                  by_cases c35 : ((rd_T47 l0_0 x11_2).f3) < 1
                                  · rw [if_pos c35] at H
                                    have c35b0 : decide (((rd_T47 l0_0 x11_2).f3) < 1) = true := decide_eq_true c35
                                    clear c35
                                    obtain rfl := Option.some.inj H
                                    go_wp2_with (first | ((with_reducible refine gate_builtin (b := .append) (xs := #[.tmp 62, .tmp 64]) rfl ?_); (try (refine gate_guard (by rfl) ?_; dsimp only)); at_builtin; refine Kd.R_append (Kd.int .i64) (w0 := w) w.heap.size rfl (.tmp 62) (.tmp 64) 33 3 (.int .i64 0) 8 rfl Try.underlying33 info3 rfl (by decide) (by omega) u10 x10_2 x11_2 [.int .i64 x11_2] (fun _ => True) (fun _ => False) rfl rfl ?aP (fun _ hk => hk.elim) ?aF ?aO ?aB ?aS ?aL ?_; (case aP => exact rfl); (case aB => exact (by repeat (first | (with_reducible first | exact HB.out | apply below_alloc | apply pw_below_drewN | apply below_drew1 | refine below_set ?_ GE191.out) | exact HB.out))); (case aF => exact (fun _ _ => trivial)); (case aO => exact (by (with_reducible repeat (first | apply Kd.R_alloc | apply Kd.R_drewN | apply Kd.R_drew)); exact HO_10.out)); (case aS => exact (below_size (by repeat (first | (with_reducible first | exact HB.out | apply below_alloc | apply pw_below_drewN | apply below_drew1 | refine below_set ?_ GE191.out) | exact HB.out)))); (case aL => have := LMc23.out; omega); intro v196 w36 ho hb hg hat; rw [← Ny195.out] at ho; have n0_ := Aside0.mk (blk_grown (g := gb191) (o := .cells #[.slice (some ad194) l0_0.length c0_0] 25 (0, 0)) (by (with_reducible repeat (first | refine blk_drewN ?_ _ | refine blk_drew ?_ | refine blk_alloc ?_ _)); exact BK191.out) hg (Kd.R_ne HO_10.out BK191.out (by decide))); have n1_ := Aside0.mk (hb); have n2_ := Aside0.mk (ho); clear BK191; clear HB; clear HO_10; have BK191 := n0_; have HB := n1_; have HO197 := n2_; clear n0_ n1_ n2_; clear ho hb hg hat; obtain ⟨Ao37, co37, eo37⟩ := Kd.R_slice HO197.out; subst eo37; have hcz38_0 : w36.cell? ⟨gb191, 0, none⟩ = some (.slice (some ad194) l0_0.length c0_0) := (blk_cell BK191.out 0).trans rfl; have hfz38_0 := blk_frozen BK191.out 0; have p198 : 0 ≤ (x11_2 : Int) := of_decide_eq_true (by first | (with_reducible assumption) | assumption); have q198 : x11_2 < (l0_0.length : Int) := of_decide_eq_true (by first | (with_reducible assumption) | assumption); obtain ⟨ad198, e198, hx198_0, hx198_1, hx198_2, hx198_3⟩ := at_T47 HR0_0.out x11_2 p198 q198; obtain rfl : ad194 = ad198 := (by injection e198); replace hx198_0 := (HB.out.cell (World.block_lt_of_cell? w _ hx198_0)).trans hx198_0; replace hx198_1 := (HB.out.cell (World.block_lt_of_cell? w _ hx198_1)).trans hx198_1; replace hx198_2 := (HB.out.cell (World.block_lt_of_cell? w _ hx198_2)).trans hx198_2; replace hx198_3 := (HB.out.cell (World.block_lt_of_cell? w _ hx198_3)).trans hx198_3; replace p198 := eq_true p198; replace q198 := eq_true q198))
                                    repeat (go_quiet (first | ((with_reducible refine gate_builtin (b := .append) (xs := #[.tmp 62, .tmp 64]) rfl ?_); (try (refine gate_guard (by rfl) ?_; dsimp only)); at_builtin; refine Kd.R_append (Kd.int .i64) (w0 := w) w.heap.size rfl (.tmp 62) (.tmp 64) 33 3 (.int .i64 0) 8 rfl Try.underlying33 info3 rfl (by decide) (by omega) u10 x10_2 x11_2 [.int .i64 x11_2] (fun _ => True) (fun _ => False) rfl rfl ?aP (fun _ hk => hk.elim) ?aF ?aO ?aB ?aS ?aL ?_; (case aP => exact rfl); (case aB => exact (by repeat (first | (with_reducible first | exact HB.out | apply below_alloc | apply pw_below_drewN | apply below_drew1 | refine below_set ?_ GE191.out) | exact HB.out))); (case aF => exact (fun _ _ => trivial)); (case aO => exact (by (with_reducible repeat (first | apply Kd.R_alloc | apply Kd.R_drewN | apply Kd.R_drew)); exact HO_10.out)); (case aS => exact (below_size (by repeat (first | (with_reducible first | exact HB.out | apply below_alloc | apply pw_below_drewN | apply below_drew1 | refine below_set ?_ GE191.out) | exact HB.out)))); (case aL => have := LMc23.out; omega); intro v196 w36 ho hb hg hat; rw [← Ny195.out] at ho; have n0_ := Aside0.mk (blk_grown (g := gb191) (o := .cells #[.slice (some ad194) l0_0.length c0_0] 25 (0, 0)) (by (with_reducible repeat (first | refine blk_drewN ?_ _ | refine blk_drew ?_ | refine blk_alloc ?_ _)); exact BK191.out) hg (Kd.R_ne HO_10.out BK191.out (by decide))); have n1_ := Aside0.mk (hb); have n2_ := Aside0.mk (ho); clear BK191; clear HB; clear HO_10; have BK191 := n0_; have HB := n1_; have HO197 := n2_; clear n0_ n1_ n2_; clear ho hb hg hat; obtain ⟨Ao37, co37, eo37⟩ := Kd.R_slice HO197.out; subst eo37; have hcz38_0 : w36.cell? ⟨gb191, 0, none⟩ = some (.slice (some ad194) l0_0.length c0_0) := (blk_cell BK191.out 0).trans rfl; have hfz38_0 := blk_frozen BK191.out 0; have p198 : 0 ≤ (x11_2 : Int) := of_decide_eq_true (by first | (with_reducible assumption) | assumption); have q198 : x11_2 < (l0_0.length : Int) := of_decide_eq_true (by first | (with_reducible assumption) | assumption); obtain ⟨ad198, e198, hx198_0, hx198_1, hx198_2, hx198_3⟩ := at_T47 HR0_0.out x11_2 p198 q198; obtain rfl : ad194 = ad198 := (by injection e198); replace hx198_0 := (HB.out.cell (World.block_lt_of_cell? w _ hx198_0)).trans hx198_0; replace hx198_1 := (HB.out.cell (World.block_lt_of_cell? w _ hx198_1)).trans hx198_1; replace hx198_2 := (HB.out.cell (World.block_lt_of_cell? w _ hx198_2)).trans hx198_2; replace hx198_3 := (HB.out.cell (World.block_lt_of_cell? w _ hx198_3)).trans hx198_3; replace p198 := eq_true p198; replace q198 := eq_true q198)); try go_wp2_with (first | ((with_reducible refine gate_builtin (b := .append) (xs := #[.tmp 62, .tmp 64]) rfl ?_); (try (refine gate_guard (by rfl) ?_; dsimp only)); at_builtin; refine Kd.R_append (Kd.int .i64) (w0 := w) w.heap.size rfl (.tmp 62) (.tmp 64) 33 3 (.int .i64 0) 8 rfl Try.underlying33 info3 rfl (by decide) (by omega) u10 x10_2 x11_2 [.int .i64 x11_2] (fun _ => True) (fun _ => False) rfl rfl ?aP (fun _ hk => hk.elim) ?aF ?aO ?aB ?aS ?aL ?_; (case aP => exact rfl); (case aB => exact (by repeat (first | (with_reducible first | exact HB.out | apply below_alloc | apply pw_below_drewN | apply below_drew1 | refine below_set ?_ GE191.out) | exact HB.out))); (case aF => exact (fun _ _ => trivial)); (case aO => exact (by (with_reducible repeat (first | apply Kd.R_alloc | apply Kd.R_drewN | apply Kd.R_drew)); exact HO_10.out)); (case aS => exact (below_size (by repeat (first | (with_reducible first | exact HB.out | apply below_alloc | apply pw_below_drewN | apply below_drew1 | refine below_set ?_ GE191.out) | exact HB.out)))); (case aL => have := LMc23.out; omega); intro v196 w36 ho hb hg hat; rw [← Ny195.out] at ho; have n0_ := Aside0.mk (blk_grown (g := gb191) (o := .cells #[.slice (some ad194) l0_0.length c0_0] 25 (0, 0)) (by (with_reducible repeat (first | refine blk_drewN ?_ _ | refine blk_drew ?_ | refine blk_alloc ?_ _)); exact BK191.out) hg (Kd.R_ne HO_10.out BK191.out (by decide))); have n1_ := Aside0.mk (hb); have n2_ := Aside0.mk (ho); clear BK191; clear HB; clear HO_10; have BK191 := n0_; have HB := n1_; have HO197 := n2_; clear n0_ n1_ n2_; clear ho hb hg hat; obtain ⟨Ao37, co37, eo37⟩ := Kd.R_slice HO197.out; subst eo37; have hcz38_0 : w36.cell? ⟨gb191, 0, none⟩ = some (.slice (some ad194) l0_0.length c0_0) := (blk_cell BK191.out 0).trans rfl; have hfz38_0 := blk_frozen BK191.out 0; have p198 : 0 ≤ (x11_2 : Int) := of_decide_eq_true (by first | (with_reducible assumption) | assumption); have q198 : x11_2 < (l0_0.length : Int) := of_decide_eq_true (by first | (with_reducible assumption) | assumption); obtain ⟨ad198, e198, hx198_0, hx198_1, hx198_2, hx198_3⟩ := at_T47 HR0_0.out x11_2 p198 q198; obtain rfl : ad194 = ad198 := (by injection e198); replace hx198_0 := (HB.out.cell (World.block_lt_of_cell? w _ hx198_0)).trans hx198_0; replace hx198_1 := (HB.out.cell (World.block_lt_of_cell? w _ hx198_1)).trans hx198_1; replace hx198_2 := (HB.out.cell (World.block_lt_of_cell? w _ hx198_2)).trans hx198_2; replace hx198_3 := (HB.out.cell (World.block_lt_of_cell? w _ hx198_3)).trans hx198_3; replace p198 := eq_true p198; replace q198 := eq_true q198)))
                                    go_ret
                                    exact ⟨_, by first | rfl | (simp [errW_none, errW_some] <;> rfl) | (simp only [← hji27, ← hji29]; first | rfl | (simp [errW_none, errW_some] <;> rfl)) | (simp [*, errW_none, errW_some] <;> rfl), by (with_reducible repeat (first | apply Kd.R_alloc | apply Kd.R_drewN | apply Kd.R_drew)); exact HO197.out, by repeat (first | (with_reducible first | exact HB.out | apply below_alloc | apply pw_below_drewN | apply below_drew1 | refine below_set ?_ GE191.out) | exact HB.out)⟩
                                  · rw [if_neg c35] at H
                                    have c35b0 : decide (((rd_T47 l0_0 x11_2).f3) < 1) = false := decide_eq_false c35
                                    clear c35
                                    by_cases c39 : ((rd_T47 l0_0 x11_2).f3) > (wrap64 ((wrap64 (a1 + ((rd_T47 l0_0 a1).f3))) - x11_2))
                                    · rw [if_pos c39] at H
                                      have c39b0 : decide ((wrap64 ((wrap64 (a1 + ((rd_T47 l0_0 a1).f3))) - x11_2)) < ((rd_T47 l0_0 x11_2).f3)) = true := decide_eq_true c39
                                      clear c39
                                      obtain rfl := Option.some.inj H
                                      go_wp2_with (first | ((with_reducible refine gate_builtin (b := .append) (xs := #[.tmp 62, .tmp 64]) rfl ?_); (try (refine gate_guard (by rfl) ?_; dsimp only)); at_builtin; refine Kd.R_append (Kd.int .i64) (w0 := w) w.heap.size rfl (.tmp 62) (.tmp 64) 33 3 (.int .i64 0) 8 rfl Try.underlying33 info3 rfl (by decide) (by omega) u10 x10_2 x11_2 [.int .i64 x11_2] (fun _ => True) (fun _ => False) rfl rfl ?aP (fun _ hk => hk.elim) ?aF ?aO ?aB ?aS ?aL ?_; (case aP => exact rfl); (case aB => exact (by repeat (first | (with_reducible first | exact HB.out | apply below_alloc | apply pw_below_drewN | apply below_drew1 | refine below_set ?_ GE191.out) | exact HB.out))); (case aF => exact (fun _ _ => trivial)); (case aO => exact (by (with_reducible repeat (first | apply Kd.R_alloc | apply Kd.R_drewN | apply Kd.R_drew)); exact HO_10.out)); (case aS => exact (below_size (by repeat (first | (with_reducible first | exact HB.out | apply below_alloc | apply pw_below_drewN | apply below_drew1 | refine below_set ?_ GE191.out) | exact HB.out)))); (case aL => have := LMc23.out; omega); intro v196 w40 ho hb hg hat; rw [← Ny195.out] at ho; have n0_ := Aside0.mk (blk_grown (g := gb191) (o := .cells #[.slice (some ad194) l0_0.length c0_0] 25 (0, 0)) (by (with_reducible repeat (first | refine blk_drewN ?_ _ | refine blk_drew ?_ | refine blk_alloc ?_ _)); exact BK191.out) hg (Kd.R_ne HO_10.out BK191.out (by decide))); have n1_ := Aside0.mk (hb); have n2_ := Aside0.mk (ho); clear BK191; clear HB; clear HO_10; have BK191 := n0_; have HB := n1_; have HO197 := n2_; clear n0_ n1_ n2_; clear ho hb hg hat; obtain ⟨Ao41, co41, eo41⟩ := Kd.R_slice HO197.out; subst eo41; have hcz42_0 : w40.cell? ⟨gb191, 0, none⟩ = some (.slice (some ad194) l0_0.length c0_0) := (blk_cell BK191.out 0).trans rfl; have hfz42_0 := blk_frozen BK191.out 0; have p198 : 0 ≤ (x11_2 : Int) := of_decide_eq_true (by first | (with_reducible assumption) | assumption); have q198 : x11_2 < (l0_0.length : Int) := of_decide_eq_true (by first | (with_reducible assumption) | assumption); obtain ⟨ad198, e198, hx198_0, hx198_1, hx198_2, hx198_3⟩ := at_T47 HR0_0.out x11_2 p198 q198; obtain rfl : ad194 = ad198 := (by injection e198); replace hx198_0 := (HB.out.cell (World.block_lt_of_cell? w _ hx198_0)).trans hx198_0; replace hx198_1 := (HB.out.cell (World.block_lt_of_cell? w _ hx198_1)).trans hx198_1; replace hx198_2 := (HB.out.cell (World.block_lt_of_cell? w _ hx198_2)).trans hx198_2; replace hx198_3 := (HB.out.cell (World.block_lt_of_cell? w _ hx198_3)).trans hx198_3; replace p198 := eq_true p198; replace q198 := eq_true q198; have p199 : 0 ≤ (x11_2 : Int) := of_decide_eq_true (by first | (with_reducible assumption) | assumption); have q199 : x11_2 < (l0_0.length : Int) := of_decide_eq_true (by first | (with_reducible assumption) | assumption); obtain ⟨ad199, e199, hx199_0, hx199_1, hx199_2, hx199_3⟩ := at_T47 HR0_0.out x11_2 p199 q199; obtain rfl : ad194 = ad199 := (by injection e199); replace hx199_0 := (HB.out.cell (World.block_lt_of_cell? w _ hx199_0)).trans hx199_0; replace hx199_1 := (HB.out.cell (World.block_lt_of_cell? w _ hx199_1)).trans hx199_1; replace hx199_2 := (HB.out.cell (World.block_lt_of_cell? w _ hx199_2)).trans hx199_2; replace hx199_3 := (HB.out.cell (World.block_lt_of_cell? w _ hx199_3)).trans hx199_3; replace p199 := eq_true p199; replace q199 := eq_true q199))
                                      repeat (go_quiet (first | ((with_reducible refine gate_builtin (b := .append) (xs := #[.tmp 62, .tmp 64]) rfl ?_); (try (refine gate_guard (by rfl) ?_; dsimp only)); at_builtin; refine Kd.R_append (Kd.int .i64) (w0 := w) w.heap.size rfl (.tmp 62) (.tmp 64) 33 3 (.int .i64 0) 8 rfl Try.underlying33 info3 rfl (by decide) (by omega) u10 x10_2 x11_2 [.int .i64 x11_2] (fun _ => True) (fun _ => False) rfl rfl ?aP (fun _ hk => hk.elim) ?aF ?aO ?aB ?aS ?aL ?_; (case aP => exact rfl); (case aB => exact (by repeat (first | (with_reducible first | exact HB.out | apply below_alloc | apply pw_below_drewN | apply below_drew1 | refine below_set ?_ GE191.out) | exact HB.out))); (case aF => exact (fun _ _ => trivial)); (case aO => exact (by (with_reducible repeat (first | apply Kd.R_alloc | apply Kd.R_drewN | apply Kd.R_drew)); exact HO_10.out)); (case aS => exact (below_size (by repeat (first | (with_reducible first | exact HB.out | apply below_alloc | apply pw_below_drewN | apply below_drew1 | refine below_set ?_ GE191.out) | exact HB.out)))); (case aL => have := LMc23.out; omega); intro v196 w40 ho hb hg hat; rw [← Ny195.out] at ho; have n0_ := Aside0.mk (blk_grown (g := gb191) (o := .cells #[.slice (some ad194) l0_0.length c0_0] 25 (0, 0)) (by (with_reducible repeat (first | refine blk_drewN ?_ _ | refine blk_drew ?_ | refine blk_alloc ?_ _)); exact BK191.out) hg (Kd.R_ne HO_10.out BK191.out (by decide))); have n1_ := Aside0.mk (hb); have n2_ := Aside0.mk (ho); clear BK191; clear HB; clear HO_10; have BK191 := n0_; have HB := n1_; have HO197 := n2_; clear n0_ n1_ n2_; clear ho hb hg hat; obtain ⟨Ao41, co41, eo41⟩ := Kd.R_slice HO197.out; subst eo41; have hcz42_0 : w40.cell? ⟨gb191, 0, none⟩ = some (.slice (some ad194) l0_0.length c0_0) := (blk_cell BK191.out 0).trans rfl; have hfz42_0 := blk_frozen BK191.out 0; have p198 : 0 ≤ (x11_2 : Int) := of_decide_eq_true (by first | (with_reducible assumption) | assumption); have q198 : x11_2 < (l0_0.length : Int) := of_decide_eq_true (by first | (with_reducible assumption) | assumption); obtain ⟨ad198, e198, hx198_0, hx198_1, hx198_2, hx198_3⟩ := at_T47 HR0_0.out x11_2 p198 q198; obtain rfl : ad194 = ad198 := (by injection e198); replace hx198_0 := (HB.out.cell (World.block_lt_of_cell? w _ hx198_0)).trans hx198_0; replace hx198_1 := (HB.out.cell (World.block_lt_of_cell? w _ hx198_1)).trans hx198_1; replace hx198_2 := (HB.out.cell (World.block_lt_of_cell? w _ hx198_2)).trans hx198_2; replace hx198_3 := (HB.out.cell (World.block_lt_of_cell? w _ hx198_3)).trans hx198_3; replace p198 := eq_true p198; replace q198 := eq_true q198; have p199 : 0 ≤ (x11_2 : Int) := of_decide_eq_true (by first | (with_reducible assumption) | assumption); have q199 : x11_2 < (l0_0.length : Int) := of_decide_eq_true (by first | (with_reducible assumption) | assumption); obtain ⟨ad199, e199, hx199_0, hx199_1, hx199_2, hx199_3⟩ := at_T47 HR0_0.out x11_2 p199 q199; obtain rfl : ad194 = ad199 := (by injection e199); replace hx199_0 := (HB.out.cell (World.block_lt_of_cell? w _ hx199_0)).trans hx199_0; replace hx199_1 := (HB.out.cell (World.block_lt_of_cell? w _ hx199_1)).trans hx199_1; replace hx199_2 := (HB.out.cell (World.block_lt_of_cell? w _ hx199_2)).trans hx199_2; replace hx199_3 := (HB.out.cell (World.block_lt_of_cell? w _ hx199_3)).trans hx199_3; replace p199 := eq_true p199; replace q199 := eq_true q199)); try go_wp2_with (first | ((with_reducible refine gate_builtin (b := .append) (xs := #[.tmp 62, .tmp 64]) rfl ?_); (try (refine gate_guard (by rfl) ?_; dsimp only)); at_builtin; refine Kd.R_append (Kd.int .i64) (w0 := w) w.heap.size rfl (.tmp 62) (.tmp 64) 33 3 (.int .i64 0) 8 rfl Try.underlying33 info3 rfl (by decide) (by omega) u10 x10_2 x11_2 [.int .i64 x11_2] (fun _ => True) (fun _ => False) rfl rfl ?aP (fun _ hk => hk.elim) ?aF ?aO ?aB ?aS ?aL ?_; (case aP => exact rfl); (case aB => exact (by repeat (first | (with_reducible first | exact HB.out | apply below_alloc | apply pw_below_drewN | apply below_drew1 | refine below_set ?_ GE191.out) | exact HB.out))); (case aF => exact (fun _ _ => trivial)); (case aO => exact (by (with_reducible repeat (first | apply Kd.R_alloc | apply Kd.R_drewN | apply Kd.R_drew)); exact HO_10.out)); (case aS => exact (below_size (by repeat (first | (with_reducible first | exact HB.out | apply below_alloc | apply pw_below_drewN | apply below_drew1 | refine below_set ?_ GE191.out) | exact HB.out)))); (case aL => have := LMc23.out; omega); intro v196 w40 ho hb hg hat; rw [← Ny195.out] at ho; have n0_ := Aside0.mk (blk_grown (g := gb191) (o := .cells #[.slice (some ad194) l0_0.length c0_0] 25 (0, 0)) (by (with_reducible repeat (first | refine blk_drewN ?_ _ | refine blk_drew ?_ | refine blk_alloc ?_ _)); exact BK191.out) hg (Kd.R_ne HO_10.out BK191.out (by decide))); have n1_ := Aside0.mk (hb); have n2_ := Aside0.mk (ho); clear BK191; clear HB; clear HO_10; have BK191 := n0_; have HB := n1_; have HO197 := n2_; clear n0_ n1_ n2_; clear ho hb hg hat; obtain ⟨Ao41, co41, eo41⟩ := Kd.R_slice HO197.out; subst eo41; have hcz42_0 : w40.cell? ⟨gb191, 0, none⟩ = some (.slice (some ad194) l0_0.length c0_0) := (blk_cell BK191.out 0).trans rfl; have hfz42_0 := blk_frozen BK191.out 0; have p198 : 0 ≤ (x11_2 : Int) := of_decide_eq_true (by first | (with_reducible assumption) | assumption); have q198 : x11_2 < (l0_0.length : Int) := of_decide_eq_true (by first | (with_reducible assumption) | assumption); obtain ⟨ad198, e198, hx198_0, hx198_1, hx198_2, hx198_3⟩ := at_T47 HR0_0.out x11_2 p198 q198; obtain rfl : ad194 = ad198 := (by injection e198); replace hx198_0 := (HB.out.cell (World.block_lt_of_cell? w _ hx198_0)).trans hx198_0; replace hx198_1 := (HB.out.cell (World.block_lt_of_cell? w _ hx198_1)).trans hx198_1; replace hx198_2 := (HB.out.cell (World.block_lt_of_cell? w _ hx198_2)).trans hx198_2; replace hx198_3 := (HB.out.cell (World.block_lt_of_cell? w _ hx198_3)).trans hx198_3; replace p198 := eq_true p198; replace q198 := eq_true q198; have p199 : 0 ≤ (x11_2 : Int) := of_decide_eq_true (by first | (with_reducible assumption) | assumption); have q199 : x11_2 < (l0_0.length : Int) := of_decide_eq_true (by first | (with_reducible assumption) | assumption); obtain ⟨ad199, e199, hx199_0, hx199_1, hx199_2, hx199_3⟩ := at_T47 HR0_0.out x11_2 p199 q199; obtain rfl : ad194 = ad199 := (by injection e199); replace hx199_0 := (HB.out.cell (World.block_lt_of_cell? w _ hx199_0)).trans hx199_0; replace hx199_1 := (HB.out.cell (World.block_lt_of_cell? w _ hx199_1)).trans hx199_1; replace hx199_2 := (HB.out.cell (World.block_lt_of_cell? w _ hx199_2)).trans hx199_2; replace hx199_3 := (HB.out.cell (World.block_lt_of_cell? w _ hx199_3)).trans hx199_3; replace p199 := eq_true p199; replace q199 := eq_true q199)))
                                      go_ret
                                      exact ⟨_, by first | rfl | (simp [errW_none, errW_some] <;> rfl) | (simp only [← hji27, ← hji29]; first | rfl | (simp [errW_none, errW_some] <;> rfl)) | (simp [*, errW_none, errW_some] <;> rfl), by (with_reducible repeat (first | apply Kd.R_alloc | apply Kd.R_drewN | apply Kd.R_drew)); exact HO197.out, by repeat (first | (with_reducible first | exact HB.out | apply below_alloc | apply pw_below_drewN | apply below_drew1 | refine below_set ?_ GE191.out) | exact HB.out)⟩
                                    · rw [if_neg c39] at H
                                      have c39b0 : decide ((wrap64 ((wrap64 (a1 + ((rd_T47 l0_0 a1).f3))) - x11_2)) < ((rd_T47 l0_0 x11_2).f3)) = false := decide_eq_false c39
                                      clear c39
                                      have H' := Aside0.mk H
                                      clear H
                                      go_wp2_with (first | ((with_reducible refine gate_builtin (b := .append) (xs := #[.tmp 62, .tmp 64]) rfl ?_); (try (refine gate_guard (by rfl) ?_; dsimp only)); at_builtin; refine Kd.R_append (Kd.int .i64) (w0 := w) w.heap.size rfl (.tmp 62) (.tmp 64) 33 3 (.int .i64 0) 8 rfl Try.underlying33 info3 rfl (by decide) (by omega) u10 x10_2 x11_2 [.int .i64 x11_2] (fun _ => True) (fun _ => False) rfl rfl ?aP (fun _ hk => hk.elim) ?aF ?aO ?aB ?aS ?aL ?_; (case aP => exact rfl); (case aB => exact (by repeat (first | (with_reducible first | exact HB.out | apply below_alloc | apply pw_below_drewN | apply below_drew1 | refine below_set ?_ GE191.out) | exact HB.out))); (case aF => exact (fun _ _ => trivial)); (case aO => exact (by (with_reducible repeat (first | apply Kd.R_alloc | apply Kd.R_drewN | apply Kd.R_drew)); exact HO_10.out)); (case aS => exact (below_size (by repeat (first | (with_reducible first | exact HB.out | apply below_alloc | apply pw_below_drewN | apply below_drew1 | refine below_set ?_ GE191.out) | exact HB.out)))); (case aL => have := LMc23.out; omega); intro v196 w43 ho hb hg hat; rw [← Ny195.out] at ho; have n0_ := Aside0.mk (blk_grown (g := gb191) (o := .cells #[.slice (some ad194) l0_0.length c0_0] 25 (0, 0)) (by (with_reducible repeat (first | refine blk_drewN ?_ _ | refine blk_drew ?_ | refine blk_alloc ?_ _)); exact BK191.out) hg (Kd.R_ne HO_10.out BK191.out (by decide))); have n1_ := Aside0.mk (hb); have n2_ := Aside0.mk (ho); clear BK191; clear HB; clear HO_10; have BK191 := n0_; have HB := n1_; have HO197 := n2_; clear n0_ n1_ n2_; clear ho hb hg hat; obtain ⟨Ao44, co44, eo44⟩ := Kd.R_slice HO197.out; subst eo44; have hcz45_0 : w43.cell? ⟨gb191, 0, none⟩ = some (.slice (some ad194) l0_0.length c0_0) := (blk_cell BK191.out 0).trans rfl; have hfz45_0 := blk_frozen BK191.out 0; have p198 : 0 ≤ (x11_2 : Int) := of_decide_eq_true (by first | (with_reducible assumption) | assumption); have q198 : x11_2 < (l0_0.length : Int) := of_decide_eq_true (by first | (with_reducible assumption) | assumption); obtain ⟨ad198, e198, hx198_0, hx198_1, hx198_2, hx198_3⟩ := at_T47 HR0_0.out x11_2 p198 q198; obtain rfl : ad194 = ad198 := (by injection e198); replace hx198_0 := (HB.out.cell (World.block_lt_of_cell? w _ hx198_0)).trans hx198_0; replace hx198_1 := (HB.out.cell (World.block_lt_of_cell? w _ hx198_1)).trans hx198_1; replace hx198_2 := (HB.out.cell (World.block_lt_of_cell? w _ hx198_2)).trans hx198_2; replace hx198_3 := (HB.out.cell (World.block_lt_of_cell? w _ hx198_3)).trans hx198_3; replace p198 := eq_true p198; replace q198 := eq_true q198; have p199 : 0 ≤ (x11_2 : Int) := of_decide_eq_true (by first | (with_reducible assumption) | assumption); have q199 : x11_2 < (l0_0.length : Int) := of_decide_eq_true (by first | (with_reducible assumption) | assumption); obtain ⟨ad199, e199, hx199_0, hx199_1, hx199_2, hx199_3⟩ := at_T47 HR0_0.out x11_2 p199 q199; obtain rfl : ad194 = ad199 := (by injection e199); replace hx199_0 := (HB.out.cell (World.block_lt_of_cell? w _ hx199_0)).trans hx199_0; replace hx199_1 := (HB.out.cell (World.block_lt_of_cell? w _ hx199_1)).trans hx199_1; replace hx199_2 := (HB.out.cell (World.block_lt_of_cell? w _ hx199_2)).trans hx199_2; replace hx199_3 := (HB.out.cell (World.block_lt_of_cell? w _ hx199_3)).trans hx199_3; replace p199 := eq_true p199; replace q199 := eq_true q199; have p200 : 0 ≤ (x11_2 : Int) := of_decide_eq_true (by first | (with_reducible assumption) | assumption); have q200 : x11_2 < (l0_0.length : Int) := of_decide_eq_true (by first | (with_reducible assumption) | assumption); obtain ⟨ad200, e200, hx200_0, hx200_1, hx200_2, hx200_3⟩ := at_T47 HR0_0.out x11_2 p200 q200; obtain rfl : ad194 = ad200 := (by injection e200); replace hx200_0 := (HB.out.cell (World.block_lt_of_cell? w _ hx200_0)).trans hx200_0; replace hx200_1 := (HB.out.cell (World.block_lt_of_cell? w _ hx200_1)).trans hx200_1; replace hx200_2 := (HB.out.cell (World.block_lt_of_cell? w _ hx200_2)).trans hx200_2; replace hx200_3 := (HB.out.cell (World.block_lt_of_cell? w _ hx200_3)).trans hx200_3; replace p200 := eq_true p200; replace q200 := eq_true q200))
                                      repeat (go_quiet (first | ((with_reducible refine gate_builtin (b := .append) (xs := #[.tmp 62, .tmp 64]) rfl ?_); (try (refine gate_guard (by rfl) ?_; dsimp only)); at_builtin; refine Kd.R_append (Kd.int .i64) (w0 := w) w.heap.size rfl (.tmp 62) (.tmp 64) 33 3 (.int .i64 0) 8 rfl Try.underlying33 info3 rfl (by decide) (by omega) u10 x10_2 x11_2 [.int .i64 x11_2] (fun _ => True) (fun _ => False) rfl rfl ?aP (fun _ hk => hk.elim) ?aF ?aO ?aB ?aS ?aL ?_; (case aP => exact rfl); (case aB => exact (by repeat (first | (with_reducible first | exact HB.out | apply below_alloc | apply pw_below_drewN | apply below_drew1 | refine below_set ?_ GE191.out) | exact HB.out))); (case aF => exact (fun _ _ => trivial)); (case aO => exact (by (with_reducible repeat (first | apply Kd.R_alloc | apply Kd.R_drewN | apply Kd.R_drew)); exact HO_10.out)); (case aS => exact (below_size (by repeat (first | (with_reducible first | exact HB.out | apply below_alloc | apply pw_below_drewN | apply below_drew1 | refine below_set ?_ GE191.out) | exact HB.out)))); (case aL => have := LMc23.out; omega); intro v196 w43 ho hb hg hat; rw [← Ny195.out] at ho; have n0_ := Aside0.mk (blk_grown (g := gb191) (o := .cells #[.slice (some ad194) l0_0.length c0_0] 25 (0, 0)) (by (with_reducible repeat (first | refine blk_drewN ?_ _ | refine blk_drew ?_ | refine blk_alloc ?_ _)); exact BK191.out) hg (Kd.R_ne HO_10.out BK191.out (by decide))); have n1_ := Aside0.mk (hb); have n2_ := Aside0.mk (ho); clear BK191; clear HB; clear HO_10; have BK191 := n0_; have HB := n1_; have HO197 := n2_; clear n0_ n1_ n2_; clear ho hb hg hat; obtain ⟨Ao44, co44, eo44⟩ := Kd.R_slice HO197.out; subst eo44; have hcz45_0 : w43.cell? ⟨gb191, 0, none⟩ = some (.slice (some ad194) l0_0.length c0_0) := (blk_cell BK191.out 0).trans rfl; have hfz45_0 := blk_frozen BK191.out 0; have p198 : 0 ≤ (x11_2 : Int) := of_decide_eq_true (by first | (with_reducible assumption) | assumption); have q198 : x11_2 < (l0_0.length : Int) := of_decide_eq_true (by first | (with_reducible assumption) | assumption); obtain ⟨ad198, e198, hx198_0, hx198_1, hx198_2, hx198_3⟩ := at_T47 HR0_0.out x11_2 p198 q198; obtain rfl : ad194 = ad198 := (by injection e198); replace hx198_0 := (HB.out.cell (World.block_lt_of_cell? w _ hx198_0)).trans hx198_0; replace hx198_1 := (HB.out.cell (World.block_lt_of_cell? w _ hx198_1)).trans hx198_1; replace hx198_2 := (HB.out.cell (World.block_lt_of_cell? w _ hx198_2)).trans hx198_2; replace hx198_3 := (HB.out.cell (World.block_lt_of_cell? w _ hx198_3)).trans hx198_3; replace p198 := eq_true p198; replace q198 := eq_true q198; have p199 : 0 ≤ (x11_2 : Int) := of_decide_eq_true (by first | (with_reducible assumption) | assumption); have q199 : x11_2 < (l0_0.length : Int) := of_decide_eq_true (by first | (with_reducible assumption) | assumption); obtain ⟨ad199, e199, hx199_0, hx199_1, hx199_2, hx199_3⟩ := at_T47 HR0_0.out x11_2 p199 q199; obtain rfl : ad194 = ad199 := (by injection e199); replace hx199_0 := (HB.out.cell (World.block_lt_of_cell? w _ hx199_0)).trans hx199_0; replace hx199_1 := (HB.out.cell (World.block_lt_of_cell? w _ hx199_1)).trans hx199_1; replace hx199_2 := (HB.out.cell (World.block_lt_of_cell? w _ hx199_2)).trans hx199_2; replace hx199_3 := (HB.out.cell (World.block_lt_of_cell? w _ hx199_3)).trans hx199_3; replace p199 := eq_true p199; replace q199 := eq_true q199; have p200 : 0 ≤ (x11_2 : Int) := of_decide_eq_true (by first | (with_reducible assumption) | assumption); have q200 : x11_2 < (l0_0.length : Int) := of_decide_eq_true (by first | (with_reducible assumption) | assumption); obtain ⟨ad200, e200, hx200_0, hx200_1, hx200_2, hx200_3⟩ := at_T47 HR0_0.out x11_2 p200 q200; obtain rfl : ad194 = ad200 := (by injection e200); replace hx200_0 := (HB.out.cell (World.block_lt_of_cell? w _ hx200_0)).trans hx200_0; replace hx200_1 := (HB.out.cell (World.block_lt_of_cell? w _ hx200_1)).trans hx200_1; replace hx200_2 := (HB.out.cell (World.block_lt_of_cell? w _ hx200_2)).trans hx200_2; replace hx200_3 := (HB.out.cell (World.block_lt_of_cell? w _ hx200_3)).trans hx200_3; replace p200 := eq_true p200; replace q200 := eq_true q200)); try go_wp2_with (first | ((with_reducible refine gate_builtin (b := .append) (xs := #[.tmp 62, .tmp 64]) rfl ?_); (try (refine gate_guard (by rfl) ?_; dsimp only)); at_builtin; refine Kd.R_append (Kd.int .i64) (w0 := w) w.heap.size rfl (.tmp 62) (.tmp 64) 33 3 (.int .i64 0) 8 rfl Try.underlying33 info3 rfl (by decide) (by omega) u10 x10_2 x11_2 [.int .i64 x11_2] (fun _ => True) (fun _ => False) rfl rfl ?aP (fun _ hk => hk.elim) ?aF ?aO ?aB ?aS ?aL ?_; (case aP => exact rfl); (case aB => exact (by repeat (first | (with_reducible first | exact HB.out | apply below_alloc | apply pw_below_drewN | apply below_drew1 | refine below_set ?_ GE191.out) | exact HB.out))); (case aF => exact (fun _ _ => trivial)); (case aO => exact (by (with_reducible repeat (first | apply Kd.R_alloc | apply Kd.R_drewN | apply Kd.R_drew)); exact HO_10.out)); (case aS => exact (below_size (by repeat (first | (with_reducible first | exact HB.out | apply below_alloc | apply pw_below_drewN | apply below_drew1 | refine below_set ?_ GE191.out) | exact HB.out)))); (case aL => have := LMc23.out; omega); intro v196 w43 ho hb hg hat; rw [← Ny195.out] at ho; have n0_ := Aside0.mk (blk_grown (g := gb191) (o := .cells #[.slice (some ad194) l0_0.length c0_0] 25 (0, 0)) (by (with_reducible repeat (first | refine blk_drewN ?_ _ | refine blk_drew ?_ | refine blk_alloc ?_ _)); exact BK191.out) hg (Kd.R_ne HO_10.out BK191.out (by decide))); have n1_ := Aside0.mk (hb); have n2_ := Aside0.mk (ho); clear BK191; clear HB; clear HO_10; have BK191 := n0_; have HB := n1_; have HO197 := n2_; clear n0_ n1_ n2_; clear ho hb hg hat; obtain ⟨Ao44, co44, eo44⟩ := Kd.R_slice HO197.out; subst eo44; have hcz45_0 : w43.cell? ⟨gb191, 0, none⟩ = some (.slice (some ad194) l0_0.length c0_0) := (blk_cell BK191.out 0).trans rfl; have hfz45_0 := blk_frozen BK191.out 0; have p198 : 0 ≤ (x11_2 : Int) := of_decide_eq_true (by first | (with_reducible assumption) | assumption); have q198 : x11_2 < (l0_0.length : Int) := of_decide_eq_true (by first | (with_reducible assumption) | assumption); obtain ⟨ad198, e198, hx198_0, hx198_1, hx198_2, hx198_3⟩ := at_T47 HR0_0.out x11_2 p198 q198; obtain rfl : ad194 = ad198 := (by injection e198); replace hx198_0 := (HB.out.cell (World.block_lt_of_cell? w _ hx198_0)).trans hx198_0; replace hx198_1 := (HB.out.cell (World.block_lt_of_cell? w _ hx198_1)).trans hx198_1; replace hx198_2 := (HB.out.cell (World.block_lt_of_cell? w _ hx198_2)).trans hx198_2; replace hx198_3 := (HB.out.cell (World.block_lt_of_cell? w _ hx198_3)).trans hx198_3; replace p198 := eq_true p198; replace q198 := eq_true q198; have p199 : 0 ≤ (x11_2 : Int) := of_decide_eq_true (by first | (with_reducible assumption) | assumption); have q199 : x11_2 < (l0_0.length : Int) := of_decide_eq_true (by first | (with_reducible assumption) | assumption); obtain ⟨ad199, e199, hx199_0, hx199_1, hx199_2, hx199_3⟩ := at_T47 HR0_0.out x11_2 p199 q199; obtain rfl : ad194 = ad199 := (by injection e199); replace hx199_0 := (HB.out.cell (World.block_lt_of_cell? w _ hx199_0)).trans hx199_0; replace hx199_1 := (HB.out.cell (World.block_lt_of_cell? w _ hx199_1)).trans hx199_1; replace hx199_2 := (HB.out.cell (World.block_lt_of_cell? w _ hx199_2)).trans hx199_2; replace hx199_3 := (HB.out.cell (World.block_lt_of_cell? w _ hx199_3)).trans hx199_3; replace p199 := eq_true p199; replace q199 := eq_true q199; have p200 : 0 ≤ (x11_2 : Int) := of_decide_eq_true (by first | (with_reducible assumption) | assumption); have q200 : x11_2 < (l0_0.length : Int) := of_decide_eq_true (by first | (with_reducible assumption) | assumption); obtain ⟨ad200, e200, hx200_0, hx200_1, hx200_2, hx200_3⟩ := at_T47 HR0_0.out x11_2 p200 q200; obtain rfl : ad194 = ad200 := (by injection e200); replace hx200_0 := (HB.out.cell (World.block_lt_of_cell? w _ hx200_0)).trans hx200_0; replace hx200_1 := (HB.out.cell (World.block_lt_of_cell? w _ hx200_1)).trans hx200_1; replace hx200_2 := (HB.out.cell (World.block_lt_of_cell? w _ hx200_2)).trans hx200_2; replace hx200_3 := (HB.out.cell (World.block_lt_of_cell? w _ hx200_3)).trans hx200_3; replace p200 := eq_true p200; replace q200 := eq_true q200)))
                                      go_roundg kj18
                                      case measure => have := HJ4.out; have := HK2.out; have := HJ18.out; omega
                                      case rel => exact ⟨(y195), (wrap64 (x11_2 + ((rd_T47 l0_0 x11_2).f3))), (by first | rfl | (simp; done) | (simp [*]; done)), H', ⟨by have := HJ4.out; have := HK2.out; have := HJ18.out; omega⟩, ⟨by (with_reducible repeat (first | apply Kd.R_alloc | apply Kd.R_drewN | apply Kd.R_drew)); exact HO197.out⟩, ⟨by (with_reducible repeat (first | refine blk_drewN ?_ _ | refine blk_drew ?_ | refine blk_alloc ?_ _)); exact BK191.out⟩, ⟨by repeat (first | (with_reducible first | exact HB.out | apply below_alloc | apply pw_below_drewN | apply below_drew1 | refine below_set ?_ GE191.out) | exact HB.out)⟩⟩
                                · rw [if_neg c34] at H
                                  exact absurd H (by simp)
                              · rw [if_neg c33] at H
                                exact absurd H (by simp)
                          · rw [if_neg c28] at H
                            exact absurd H (by simp)
                      · rw [if_neg c23] at H
                        exact absurd H (by simp)
                    · replace c22 := Bool.eq_false_iff.mpr c22
                      subst c22
                      have H1 : (some x10_2) = some r := by rw [if_neg (show ¬ (false = true) by decide)] at H; exact H
                      clear H
                      have H := H1
                      clear H1
                      obtain rfl := Option.some.inj H
                      go_wp2
                      repeat (go_quiet (fail); try go_wp2)
                      go_ret
                      exact ⟨_, by first | rfl | (simp [errW_none, errW_some] <;> rfl) | (simp [*, errW_none, errW_some] <;> rfl), by (with_reducible repeat (first | apply Kd.R_alloc | apply Kd.R_drewN | apply Kd.R_drew)); exact HO_10.out, by repeat (first | (with_reducible first | exact HB.out | apply below_alloc | apply pw_below_drewN | apply below_drew1 | refine below_set ?_ GE191.out) | exact HB.out)⟩
          · rw [if_neg c17] at H
            exact absurd H (by simp)
        · rw [if_neg c16] at H
          exact absurd H (by simp)

end Go.Proofs.Ytodldpdnhcafpaa.F

namespace Go.Proofs.Ytodldpdnhcafpaa.Q
open Go.RowKit Go.Proofs.YtodldpdnhcafpaaW.PrintWords Go.Proofs.YtodldpdnhcafpaaW.PrintLast Go.Proofs.YtodldpdnhcafpaaW.PrintMore
open Go.Proofs.Ytodldpdnhcafpaa.F Go.Proofs.Ytodldpdnhcafpaa.K
set_option linter.unusedSimpArgs false
set_option linter.unusedVariables false

/-- Are the kids from x on in order up to en? -/
def ck (l : List S47) (en : Int) : Nat → Int → Bool
  | 0, _ => true
  | d + 1, x => if x < en then (if (rd_T47 l x).f3 < 1 then false else if (rd_T47 l x).f3 > en - x then false else ck l en d (x + (rd_T47 l x).f3)) else true
def C (l : List S47) (x en : Int) : Bool := ck l en l.length x
/-- The nodes from n on, the ends of those around from the innermost on. -/
def pops (n : Int) : List Int → List Int
  | [] => []
  | e :: s => if e = n then pops n s else e :: s
def endOf (l : List S47) : List Int → Int
  | [] => l.length
  | e :: _ => e
def run (l : List S47) : Nat → Int → List Int → Bool
  | 0, _, _ => true
  | f + 1, n, s => if (rd_T47 l n).f0 ≥ 58 then false else if (rd_T47 l n).f3 < 1 then false else if (rd_T47 l n).f3 > endOf l (pops n s) - n then false else run l f (n + 1) ((n + (rd_T47 l n).f3) :: pops n s)

end Go.Proofs.Ytodldpdnhcafpaa.Q

namespace Go.Proofs.Ytodldpdnhcafpaa.Q
open Go.RowKit Go.Proofs.YtodldpdnhcafpaaW.PrintWords Go.Proofs.YtodldpdnhcafpaaW.PrintLast Go.Proofs.YtodldpdnhcafpaaW.PrintMore
open Go.Proofs.Ytodldpdnhcafpaa.F Go.Proofs.Ytodldpdnhcafpaa.K
set_option linter.unusedSimpArgs false
set_option linter.unusedVariables false

theorem u64_wrap_nonneg (x : Int) : 0 ≤ IntKind.u64.wrap x := by
  simp [IntKind.wrap, IntKind.bits, IntKind.signed]
  try omega
theorem chV_one (bits x : Int) : chV bits x = 0 ∨ chV bits x = 1 := by
  unfold chV
  generalize shr .u64 bits _ = v
  simp [Go.bits]
  have e : ∀ n : Nat, n &&& 1 = 0 ∨ n &&& 1 = 1 := fun n => by rw [Nat.and_one_is_mod]; omega
  have e1 : (1 : Nat) % 2 ^ IntKind.u64.bits = 1 := by rfl
  rw [e1]
  rcases e (v % 2 ^ IntKind.u64.bits).toNat with h | h
  · left; rw [h]; rfl
  · right; rw [h]; rfl
/-- What a Walk that is left behind s numbers has given; s below 0: it is not left. -/
def upto (s : Int) (pre ws : List Int) : List Int := if s < 0 then pre ++ ws else pre ++ ws.take (s.toNat - pre.length)
theorem walk_loop (ns : List S47) (hn : ns.length ≤ 4398046511104) (bits s en : Int) (he : en ≤ (ns.length : Int)) (d : Nat) : ∀ (pre : List Int) (x : Int), 0 ≤ x → en - x ≤ d → (pre.length : Int) ≤ x → (0 ≤ s → (pre.length : Int) < s) →
    Ev (fun k => monikerref4_Walk.l0 k bits s en pre x ns) (upto s pre (walkL ns (chB bits) en d x)) := by
  have hend : ∀ (pre : List Int) (x : Int), ¬ x < en → Ev (fun k => monikerref4_Walk.l0 k bits s en pre x ns) pre := by
    intro pre x hx
    refine Ev.step (f := fun k => monikerref4_Walk.j2 k bits s en pre x false ns) (fun k => ?_) ?_
    · simp only [monikerref4_Walk.l0]; rw [if_neg hx]
    · refine Ev.step (fun k => ?_) (Ev.now _)
      simp only [monikerref4_Walk.j2]; rw [if_neg (by simp)]
  induction d with
  | zero =>
    intro pre x h0 hd hp hs
    have := hend pre x (by omega)
    simpa [upto, walkL] using this
  | succ d ih =>
    intro pre x h0 hd hp hs
    by_cases c : x < en
    · have hlim : pre.length < 17592186044416 := by omega
      have hpl : ((pre ++ [x]).length : Int) = pre.length + 1 := by rw [List.length_append, List.length_singleton]; rfl
      have hne : (((pre.length : Int)) != s) = true := by
        rw [bne_iff_ne]
        intro h
        by_cases q : 0 ≤ s
        · have := hs q; omega
        · omega
      refine Ev.step (f := fun k => monikerref4_Walk.j2 k bits s en pre x true ns) (fun k => ?_) ?_
      · simp only [monikerref4_Walk.l0]; rw [if_pos c, hne]
      simp only [walkL]
      rw [if_pos c]
      have hup : ∀ ws, ((pre ++ [x]).length : Int) ≠ s → upto s pre (x :: ws) = upto s (pre ++ [x]) ws := fun ws hx => by
        unfold upto
        by_cases q : s < 0
        · rw [if_pos q, if_pos q, List.append_assoc]; rfl
        · rw [if_neg q, if_neg q, List.append_assoc]
          have h1 := hs (by omega)
          have e : s.toNat - pre.length = (s.toNat - (pre ++ [x]).length) + 1 := by rw [List.length_append, List.length_singleton]; omega
          rw [e]
          rfl
      by_cases hx : ((pre ++ [x]).length : Int) = s
      · have hst : ∀ ws, upto s pre (x :: ws) = pre ++ [x] := fun ws => by
          unfold upto
          rw [if_neg (by omega), show s.toNat - pre.length = 1 by omega]
          rfl
        rw [hst]
        refine Ev.step (fun k => ?_) (Ev.now _)
        simp only [monikerref4_Walk.j2, Option.bind_some]
        rw [if_pos trivial, if_pos hlim, if_pos hx]
      · rw [hup _ hx]
        have hw1 : wrap64 (x + 1) = x + 1 := kw64 (by omega) (by omega)
        have hw2 : wrap64 (en - x) = en - x := kw64 (by omega) (by omega)
        have hs' : 0 ≤ s → ((pre ++ [x]).length : Int) < s := fun q => by have := hs q; omega
        rcases chV_one bits x with hv | hv
        · have hb : chB bits x = false := by unfold chB; rw [hv]; rfl
          rw [hb]
          refine Ev.step (fun k => ?_) (ih (pre ++ [x]) (x + 1) (by omega) (by omega) (by omega) hs')
          simp only [monikerref4_Walk.j2, Option.bind_some]
          rw [if_pos trivial, if_pos hlim, if_neg hx, if_pos (u64_wrap_nonneg _), if_pos (show Go.bits .and .u64 (shr .u64 bits (IntKind.u64.wrap (Go.bits .and .i64 x 63))) 1 = 0 from hv), hw1]
        · have hb : chB bits x = true := by unfold chB; rw [hv]; rfl
          have hv0 : ¬ Go.bits .and .u64 (shr .u64 bits (IntKind.u64.wrap (Go.bits .and .i64 x 63))) 1 = 0 := fun h => by have h' : chV bits x = 0 := h; omega
          have hxl : x < (ns.length : Int) := by omega
          rw [hb, if_pos rfl]
          by_cases c1 : (rd_T47 ns x).f3 < 1
          · rw [if_pos c1]
            have e : upto s (pre ++ [x]) [] = pre ++ [x] := by unfold upto; split <;> simp
            rw [e]
            refine Ev.step (fun k => ?_) (Ev.now _)
            simp only [monikerref4_Walk.j2, Option.bind_some]
            rw [if_pos trivial, if_pos hlim, if_neg hx, if_pos (u64_wrap_nonneg _), if_neg hv0, if_pos h0, if_pos hxl, if_pos c1]
          · rw [if_neg c1]
            by_cases c2 : (rd_T47 ns x).f3 > en - x
            · rw [if_pos c2]
              have e : upto s (pre ++ [x]) [] = pre ++ [x] := by unfold upto; split <;> simp
              rw [e]
              refine Ev.step (fun k => ?_) (Ev.now _)
              simp only [monikerref4_Walk.j2, Option.bind_some]
              rw [if_pos trivial, if_pos hlim, if_neg hx, if_pos (u64_wrap_nonneg _), if_neg hv0, if_pos h0, if_pos hxl, if_neg c1, hw2, if_pos c2]
            · rw [if_neg c2]
              have hw3 : wrap64 (x + (rd_T47 ns x).f3) = x + (rd_T47 ns x).f3 := kw64 (by omega) (by omega)
              refine Ev.step (fun k => ?_) (ih (pre ++ [x]) (x + (rd_T47 ns x).f3) (by omega) (by omega) (by omega) hs')
              simp only [monikerref4_Walk.j2, Option.bind_some]
              rw [if_pos trivial, if_pos hlim, if_neg hx, if_pos (u64_wrap_nonneg _), if_neg hv0, if_pos h0, if_pos hxl, if_neg c1, hw2, if_neg c2, hw3]
    · have := hend pre x c
      simp only [walkL]
      rw [if_neg c]
      have e : upto s pre [] = pre := by unfold upto; split <;> simp
      rw [e]
      exact this

theorem RWalk_is (ns : List S47) (hn : ns.length ≤ 4398046511104) (bits s n : Int) (hs : 0 ≤ s → 0 < s) : Ev (fun k => monikerref4_Walk.f k ns n bits s) (upto s [] (walkOf ns (chB bits) n)) := by
  have hbad : Ev (fun k => monikerref4_Walk.j0 k n bits s true ns) ([] : List Int) := Ev.step (fun k => by simp only [monikerref4_Walk.j0]; rw [if_pos trivial]) (Ev.now _)
  have hnil : sizedB ns n = false → upto s [] (walkOf ns (chB bits) n) = [] := fun h => by
    unfold walkOf upto
    rw [h]
    split <;> simp
  unfold monikerref4_Walk.f
  by_cases h1 : n < 0
  · rw [hnil (by unfold sizedB; rw [decide_eq_false (by omega)]; rfl)]
    simp only [if_pos h1]
    exact hbad
  simp only [if_neg h1]
  by_cases h2 : n ≥ (ns.length : Int)
  · rw [hnil (by unfold sizedB; rw [decide_eq_false (show ¬ n < (ns.length : Int) by omega)]; simp)]
    simp only [if_pos h2]
    exact hbad
  simp only [if_neg h2, if_pos (show 0 ≤ n by omega), if_pos (show n < (ns.length : Int) by omega)]
  by_cases h3 : (rd_T47 ns n).f3 < 1
  · rw [hnil (by unfold sizedB; rw [decide_eq_false (show ¬ 1 ≤ (rd_T47 ns n).f3 by omega)]; simp)]
    simp only [if_pos h3]
    exact hbad
  simp only [if_neg h3]
  have hw : wrap64 ((ns.length : Int) - n) = (ns.length : Int) - n := kw64 (by omega) (by omega)
  rw [hw]
  by_cases h4 : (rd_T47 ns n).f3 > (ns.length : Int) - n
  · rw [hnil (by unfold sizedB; rw [decide_eq_false (show ¬ (rd_T47 ns n).f3 ≤ (ns.length : Int) - n by omega)]; simp), decide_eq_true h4]
    exact hbad
  rw [decide_eq_false h4]
  have hsz : sizedB ns n = true := by
    unfold sizedB
    rw [decide_eq_true (show 0 ≤ n by omega), decide_eq_true (show n < (ns.length : Int) by omega), decide_eq_true (show 1 ≤ (rd_T47 ns n).f3 by omega), decide_eq_true (show (rd_T47 ns n).f3 ≤ (ns.length : Int) - n by omega)]
    rfl
  have hw2 : wrap64 (n + (rd_T47 ns n).f3) = n + (rd_T47 ns n).f3 := kw64 (by omega) (by omega)
  have := walk_loop ns hn bits s (n + (rd_T47 ns n).f3) (by omega) ns.length [] n (by omega) (by omega) (by simp; omega) (fun q => by simpa using hs q)
  unfold walkOf
  rw [if_pos hsz]
  refine Ev.step (fun k => ?_) this
  simp only [monikerref4_Walk.j0]
  rw [if_neg (by simp), if_pos (by omega), if_pos (by omega), hw2]
end Go.Proofs.Ytodldpdnhcafpaa.Q

-- What the law TreeWalks compares: plain facts of the document's Walk
namespace Go.Proofs.Ytodldpdnhcafpaa.Q
open Go.RowKit Go.Proofs.YtodldpdnhcafpaaW.PrintWords Go.Proofs.YtodldpdnhcafpaaW.PrintLast Go.Proofs.YtodldpdnhcafpaaW.PrintMore
open Go.Proofs.Ytodldpdnhcafpaa.F Go.Proofs.Ytodldpdnhcafpaa.K
set_option linter.unusedSimpArgs false
set_option linter.unusedVariables false

theorem upto_all (ws : List Int) : upto (-1) [] ws = ws := by
  unfold upto
  rw [if_pos (by omega)]
  rfl
theorem RWalk_all (ns : List S47) (hn : ns.length ≤ 4398046511104) (bits n : Int) : Ev (fun k => monikerref4_Walk.f k ns n bits (-1)) (walkOf ns (chB bits) n) := by
  have h := RWalk_is ns hn bits (-1) n (by omega)
  rwa [upto_all] at h
end Go.Proofs.Ytodldpdnhcafpaa.Q

namespace Go.Proofs.Ytodldpdnhcafpaa.H
open Go.RowKit Go.Proofs.YtodldpdnhcafpaaW.PrintWords Go.Proofs.YtodldpdnhcafpaaW.PrintLast Go.Proofs.YtodldpdnhcafpaaW.PrintMore
open Go.Proofs.Ytodldpdnhcafpaa.F
set_option linter.unusedVariables false
set_option linter.unusedSimpArgs false
theorem Reps.app {α : Type} {R : α → List Value → Prop} {size : Nat} {ps qs : List α} {cs ds : List Value} (h : Reps R size ps cs) (k : Reps R size qs ds) : Reps R size (ps ++ qs) (cs ++ ds) := by
  refine ⟨by rw [List.length_append, h.1, k.1, List.length_append, Nat.add_mul], fun j q hq => ?_⟩
  rcases Nat.lt_or_ge j ps.length with hj | hj
  · rw [List.getElem?_append_left hj] at hq
    have h1 : j * size + size ≤ cs.length := by rw [h.1, ← Nat.succ_mul]; exact Nat.mul_le_mul_right _ hj
    have h2 := h.2 j q hq
    rw [List.drop_append_of_le_length (by omega), List.take_append_of_le_length (by rw [List.length_drop]; omega)]
    exact h2
  · rw [List.getElem?_append_right hj] at hq
    have h2 := k.2 _ q hq
    have e : j * size = cs.length + (j - ps.length) * size := by rw [h.1, ← Nat.add_mul]; congr 1; omega
    rw [e, List.drop_append, List.drop_eq_nil_of_le (by omega), List.nil_append, Nat.add_sub_cancel_left]
    exact h2

theorem row_cells61 {w : World} {A : Option Addr} {l : List S61} (hr : Kd.C k61 w A l.length l) :
    ∃ inner, Reps (k61.K w) 3 l inner ∧ (A = none → l.length = 0) ∧ ∀ ad, A = some ad → ∀ j u, inner[j]? = some u → w.cell? (ad.add j) = some u := by
  cases A with
  | none =>
    have h0 : l.length = 0 := by
      rcases Nat.eq_zero_or_pos l.length with h | h
      · exact h
      · obtain ⟨ad, e, _⟩ := hr.2.2 h
        cases e
    obtain rfl := List.eq_nil_of_length_eq_zero h0
    exact ⟨[], Reps.none _ _, fun _ => h0, (fun ad e => by cases e)⟩
  | some ad =>
    obtain ⟨inner, h1, h2⟩ := ReadsRow.inner_ (R := k61.K w) (size := 3) hr
    exact ⟨inner, h1, (fun e => by cases e), fun ad2 e => by cases e; exact h2⟩
theorem row_one61 {w : World} {l : List S61} {inner : List Value} (h : Reps (k61.K w) 3 l inner) : ∀ u ∈ inner, u.oneCell' = true := by
  intro u hu
  obtain ⟨i, hi, rfl⟩ := List.mem_iff_getElem.1 hu
  have hj : i / 3 < l.length := by have := h.1; omega
  have hk := h.2 (i / 3) (l[i / 3]'hj) (List.getElem?_eq_getElem hj)
  refine k61.K_one hk _ ?_
  rw [List.mem_iff_getElem]
  refine ⟨i % 3, by rw [List.length_take, List.length_drop]; have := h.1; omega, ?_⟩
  rw [List.getElem_take, List.getElem_drop]
  congr 1
  omega
def marks61 : List S61 := [⟨0, -5, -6⟩, ⟨77, 0, 0⟩]
def mcells61 : List Value := [.int .u8 0, .int .i64 (-5), .int .i64 (-6), .int .u8 77, .int .i64 0, .int .i64 0]
theorem mcell61 (w2 : World) (j : Nat) (u : Value) (hu : mcells61[j]? = some u) : (w2.alloc (.cells mcells61.toArray 61)).cell? ((⟨w2.heap.size, 0, none⟩ : Addr).add j) = some u := by
  rw [add_plain, World.cell?_alloc_new]; simpa using hu
theorem mcells61_one : ∀ u ∈ mcells61, u.oneCell' = true := by simp [mcells61, Value.oneCell']
theorem reps_marks61 (w : World) : Reps (k61.K w) 3 marks61 mcells61 := by
  refine ⟨rfl, fun j p hj => ?_⟩
  match j, hj with
  | 0, hj => cases hj; exact k61_mk w _
  | 1, hj => cases hj; exact k61_mk w _
  | j + 2, hj => simp [marks61] at hj
theorem C_of_own61 {w w3 : World} {base g c : Nat} {l : List S61} {inner : List Value} (hR : Reps (k61.K w) 3 l inner) (h : w3.ownsRow base 61 3 (.slice (some ⟨g, 0, none⟩) (l.length + 2) c) (l.length + 2) (inner ++ mcells61)) :
    Kd.C k61 w3 (some ⟨g, 0, none⟩) (l.length + 2) (l ++ marks61) := by
  have hk : ∀ (p : S61) cs, k61.K w p cs → k61.K w3 p cs := fun p cs h => by rw [k61_open h]; exact k61_mk w3 p
  obtain ⟨A, c', he, hrow⟩ := own_reads_row (R := k61.K w3) (ps := l ++ marks61) h (Reps.app (Reps.imp_ hR hk) (reps_marks61 w3)) (by simp [marks61])
  injection he with h1 _ _
  subst h1
  exact hrow
theorem row_cells47 {w : World} {A : Option Addr} {l : List S47} (hr : Kd.C k47 w A l.length l) :
    ∃ inner, Reps (k47.K w) 4 l inner ∧ (A = none → l.length = 0) ∧ ∀ ad, A = some ad → ∀ j u, inner[j]? = some u → w.cell? (ad.add j) = some u := by
  cases A with
  | none =>
    have h0 : l.length = 0 := by
      rcases Nat.eq_zero_or_pos l.length with h | h
      · exact h
      · obtain ⟨ad, e, _⟩ := hr.2.2 h
        cases e
    obtain rfl := List.eq_nil_of_length_eq_zero h0
    exact ⟨[], Reps.none _ _, fun _ => h0, (fun ad e => by cases e)⟩
  | some ad =>
    obtain ⟨inner, h1, h2⟩ := ReadsRow.inner_ (R := k47.K w) (size := 4) hr
    exact ⟨inner, h1, (fun e => by cases e), fun ad2 e => by cases e; exact h2⟩
theorem row_one47 {w : World} {l : List S47} {inner : List Value} (h : Reps (k47.K w) 4 l inner) : ∀ u ∈ inner, u.oneCell' = true := by
  intro u hu
  obtain ⟨i, hi, rfl⟩ := List.mem_iff_getElem.1 hu
  have hj : i / 4 < l.length := by have := h.1; omega
  have hk := h.2 (i / 4) (l[i / 4]'hj) (List.getElem?_eq_getElem hj)
  refine k47.K_one hk _ ?_
  rw [List.mem_iff_getElem]
  refine ⟨i % 4, by rw [List.length_take, List.length_drop]; have := h.1; omega, ?_⟩
  rw [List.getElem_take, List.getElem_drop]
  congr 1
  omega
def marks47 : List S47 := [⟨99, -3, 0, -4⟩, ⟨0, 0, 12345, 0⟩]
def mcells47 : List Value := [.int .u8 99, .int .i64 (-3), .int .i64 0, .int .i64 (-4), .int .u8 0, .int .i64 0, .int .i64 12345, .int .i64 0]
theorem mcell47 (w2 : World) (j : Nat) (u : Value) (hu : mcells47[j]? = some u) : (w2.alloc (.cells mcells47.toArray 47)).cell? ((⟨w2.heap.size, 0, none⟩ : Addr).add j) = some u := by
  rw [add_plain, World.cell?_alloc_new]; simpa using hu
theorem mcells47_one : ∀ u ∈ mcells47, u.oneCell' = true := by simp [mcells47, Value.oneCell']
theorem own_set1 {w : World} {base n : Nat} {e : TypeId} {size : Nat} {v : Value} {xs : List Value} {g : Nat} (h : w.ownsRow base e size v n xs) (hne : v.ownBlock ≠ some g) (j : Nat) (u : Value) : (w.setCell ⟨g, j, none⟩ u).ownsRow base e size v n xs :=
  own_move h (fun k hk => Below.heap_setCell w ⟨g, j, none⟩ u k (by rintro rfl; exact hne hk))
theorem own_set3 {w : World} {base n : Nat} {e : TypeId} {size : Nat} {v : Value} {xs : List Value} {g : Nat} (h : w.ownsRow base e size v n xs) (hne : v.ownBlock ≠ some g) (i j k : Nat) (u u' u'' : Value) : (((w.setCell ⟨g, i, none⟩ u).setCell ⟨g, j, none⟩ u').setCell ⟨g, k, none⟩ u'').ownsRow base e size v n xs :=
  own_set1 (own_set1 (own_set1 h hne i u) hne j u') hne k u''
section
variable {P : Program} {ops : Array Oper} {rest : List Oper} {o : Oper} {a : Act} {Q : Exit → Act → World → Prop}
/-- make([]T, 0, n), the block a letter. -/
theorem make_g {W : World} (hg : o.guard = none) (l c : Operand) (t : TypeId) (hop : o.op = Op.makeSlice t l c) (base : Nat) (e : TypeId) (i : TypeInfo) (z : Value) (size : Nat) (h1 : P.underlying t = some (.slice e)) (h2 : P.info? e = some i) (h3 : i.zero = some z) (h4 : i.size = size)
    (kl kc : IntKind) (C : Int) (n : Nat) (hl : a.eval l = .int kl 0) (hc : a.eval c = .int kc C) (hC : C = (n : Int)) (b2 : i.bytes * n ≤ 281474976710656) (b3 : n ≤ maxLen) (b4 : base ≤ W.heap.size)
    (hK : ∀ g w', W.heap.size ≤ g → w'.ownsRow base e size (.slice (some ⟨g, 0, none⟩) 0 n) 0 [] → W.grownBy w' none → wpList P ops Q rest (a.put o.dst (.slice (some ⟨g, 0, none⟩) 0 n)) w') :
    wpList P ops Q (o :: rest) a W :=
  wpList_make_own W hg l c t hop base e i z size h1 h2 h3 h4 kl kc C n hl hc hC b2 b3 b4 (hK _ · (Nat.le_refl _))
end
 
end Go.Proofs.Ytodldpdnhcafpaa.H

namespace Go.Proofs.Ytodldpdnhcafpaa.H
open Go.RowKit Go.Proofs.YtodldpdnhcafpaaW.PrintWords Go.Proofs.YtodldpdnhcafpaaW.PrintLast Go.Proofs.YtodldpdnhcafpaaW.PrintMore
open Go.Proofs.Ytodldpdnhcafpaa.F
set_option linter.unusedVariables false
set_option linter.unusedSimpArgs false
theorem R_of_own47 {w w3 : World} {base g c : Nat} {l : List S47} {inner : List Value} (hR : Reps (k47.K w) 4 l inner) (h : w3.ownsRow base 47 4 (.slice (some ⟨g, 0, none⟩) (l.length + 2) c) (l.length + 2) (inner ++ mcells47)) :
    Kd.R k47 47 w3 base (fun _ => True) (.slice (some ⟨g, 0, none⟩) l.length c) l := by
  have hk : ∀ (p : S47) cs, k47.K w p cs → k47.M w3 base (fun k => True ∧ some k ≠ (Value.slice (some ⟨g, 0, none⟩) (l.length + 2) c).ownBlock) p cs := fun p cs h => by rw [k47_open h]; exact k47_mkM w3 base _ p
  have hm : Reps (k47.M w3 base (fun k => True ∧ some k ≠ (Value.slice (some ⟨g, 0, none⟩) (l.length + 2) c).ownBlock)) 4 marks47 mcells47 := by
    refine ⟨rfl, fun j p hj => ?_⟩
    match j, hj with
    | 0, hj => cases hj; exact k47_mkM w3 base _ _
    | 1, hj => cases hj; exact k47_mkM w3 base _ _
    | j + 2, hj => simp [marks47] at hj
  have hlen : (l ++ marks47).length = l.length + 2 := by simp [marks47]
  have hr : Kd.R k47 47 w3 base (fun _ => True) (.slice (some ⟨g, 0, none⟩) (l.length + 2) c) (l ++ marks47) := ⟨fun _ _ => trivial, inner ++ mcells47, by rw [hlen]; exact h, Reps.app (Reps.imp_ hR hk) hm⟩
  have h2 := Kd.R_take (m := l.length) hr (by rw [hlen]; omega)
  simpa using h2
def LentOwn (t : ByteArray) (ps : List S61) (ns : List S47) (w : World) (e : Ending) (w' : World) : Prop :=
  ∃ A gc, e = .returned (.agg #[.string t, .slice A ps.length (ps.length + 2), .slice (some ⟨gc, 0, none⟩) ns.length (ns.length + 2)]) ∧ Kd.C k61 w' A (ps.length + 2) (ps ++ marks61) ∧ Kd.R k47 47 w' w.heap.size (fun _ => True) (.slice (some ⟨gc, 0, none⟩) ns.length (ns.length + 2)) ns ∧ Below w.heap.size w w'
set_option maxHeartbeats 2000000 in
theorem lent_own (t : ByteArray) (A1 : Option Addr) (c1 : Nat) (ps : List S61) (A2 : Option Addr) (c2 : Nat) (ns : List S47) (w : World)
    (hr1 : Kd.C k61 w A1 ps.length ps) (hc1 : ps.length ≤ c1) (hn1 : A1 = none → c1 = 0) (hb1 : ps.length * 24 ≤ 140737488351232)
    (hr2 : Kd.C k47 w A2 ns.length ns) (hc2 : ns.length ≤ c2) (hn2 : A2 = none → c2 = 0) (hb2 : ns.length * 32 ≤ 140737488351232) :
    Calls Try.prog 18 #[.agg #[.string t, .slice A1 ps.length c1, .slice A2 ns.length c2]] w (LentOwn t ps ns w) := by
  have hu61 := Try.underlying61
  have hu47 := Try.underlying47
  have hu27 := Try.underlying27
  have hu25 := Try.underlying25
  obtain ⟨i, hi, hz0, hz1, hz2⟩ := info_parts info61
  obtain ⟨i', hi', hz0', hz1', hz2'⟩ := info_parts info47
  obtain ⟨inner, hR, hA, hcell⟩ := row_cells61 hr1
  obtain ⟨inner', hR', hA', hcell'⟩ := row_cells47 hr2
  have HR := Aside0.mk hR
  have hlen : inner.length = ps.length * 3 := hR.1
  have HL := Aside0.mk hlen
  have HC := Aside0.mk hcell
  have HN := Aside0.mk hn1
  have HA := Aside0.mk hA
  have HY := Aside0.mk hz2
  have HI := Aside0.mk hi
  have HZ0 := Aside0.mk hz0
  have HZ1 := Aside0.mk hz1
  have HR' := Aside0.mk hR'
  have hlen' : inner'.length = ns.length * 4 := hR'.1
  have HL' := Aside0.mk hlen'
  have HC' := Aside0.mk hcell'
  have HN' := Aside0.mk hn2
  have HA' := Aside0.mk hA'
  have HY' := Aside0.mk hz2'
  have HI' := Aside0.mk hi'
  have HZ0' := Aside0.mk hz0'
  have HZ1' := Aside0.mk hz1'
  clear hR hcell hr1 hn1 hA hlen hz2 hi hz0 hz1 hR' hcell' hr2 hn2 hA' hlen' hz2' hi' hz0' hz1'
  have hl : ps.length ≤ 5864062014634 := by omega
  have hl' : ns.length ≤ 4398046510976 := by omega
  go_enter Try.func18, Try.ntmps18
  go_wp2_with (first
    | ((with_reducible refine gate_dst (N := 1) rfl ?_); refine box_event ?hg (N := 1) ?hd (cs := #[.string t, .slice A1 ps.length c1, .slice A2 ns.length c2]) (t := 27) ?hr ?_; (case hd => rfl); (case hg => rfl); (case hr => first | (go_simp; done) | (go_simp; rfl)); intro gb1 hge w1 hbox hb; have BK1 := Aside0.mk hbox; have HB := Aside0.mk hb; clear hbox hge hb; have hx0 : w1.cell? ⟨gb1, 0, none⟩ = some (.string t) := (blk_cell BK1.out 0).trans rfl; have hx1 : w1.cell? ⟨gb1, 1, none⟩ = some (.slice A1 ps.length c1) := (blk_cell BK1.out 1).trans rfl; have hx2 : w1.cell? ⟨gb1, 2, none⟩ = some (.slice A2 ns.length c2) := (blk_cell BK1.out 2).trans rfl)
    | ((with_reducible refine gate_dst (N := 2) rfl ?_); refine box_event ?hg (N := 2) ?hd (cs := #[.string ⟨#[]⟩, .slice none 0 0, .slice none 0 0]) (t := 27) ?hr ?_; (case hd => rfl); (case hg => rfl); (case hr => first | (go_simp; done) | (go_simp; rfl)); intro gb2 hge w2 hbox hb; have BK2 := Aside0.mk hbox; have GE2 := Aside0.mk (show w.heap.size ≤ gb2 by rw [hge]; exact HB.out.size); clear hx0 hx1 hx2; have n0_ := Aside0.mk (blk_below BK1.out hb); have n1_ := Aside0.mk (below_step HB.out hb); clear BK1; clear HB; have BK1 := n0_; have HB := n1_; clear n0_ n1_; clear hbox hge hb; have hx0 : w2.cell? ⟨gb1, 0, none⟩ = some (.string t) := (blk_cell BK1.out 0).trans rfl; have hx1 : w2.cell? ⟨gb1, 1, none⟩ = some (.slice A1 ps.length c1) := (blk_cell BK1.out 1).trans rfl; have hx2 : w2.cell? ⟨gb1, 2, none⟩ = some (.slice A2 ns.length c2) := (blk_cell BK1.out 2).trans rfl)
    | ((with_reducible refine gate_dst (N := 9) rfl ?_); refine make_g rfl _ _ 22 rfl w.heap.size 61 i _ 3 Try.underlying22 HI.out HZ0.out HZ1.out _ _ _ (ps.length + 2) rfl rfl (by first | rfl | (simp; done) | omega) (by rw [HY.out]; omega) (by unfold maxLen; omega) HB.out.size ?_; intro ga w3 hge hown hg; have HOa := Aside0.mk hown; have NE1ga := Aside0.mk (Nat.ne_of_lt (Nat.lt_of_lt_of_le (blk_lt BK1.out) hge)); have NE2ga := Aside0.mk (Nat.ne_of_lt (Nat.lt_of_lt_of_le (blk_lt BK2.out) hge)); have GEga := Aside0.mk (Nat.le_trans HB.out.size hge); clear hx0 hx1 hx2; have n0_ := Aside0.mk (blk_grown BK1.out hg (by simp)); have n1_ := Aside0.mk (blk_grown BK2.out hg (by simp)); have n2_ := Aside0.mk (HB.out.grown hg HB.out.size (by simp)); clear BK1; clear BK2; clear HB; have BK1 := n0_; have BK2 := n1_; have HB := n2_; clear n0_ n1_ n2_; clear hown hg hge; have hx0 : w3.cell? ⟨gb1, 0, none⟩ = some (.string t) := (blk_cell BK1.out 0).trans rfl; have hx1 : w3.cell? ⟨gb1, 1, none⟩ = some (.slice A1 ps.length c1) := (blk_cell BK1.out 1).trans rfl; have hx2 : w3.cell? ⟨gb1, 2, none⟩ = some (.slice A2 ns.length c2) := (blk_cell BK1.out 2).trans rfl)
    | ((with_reducible refine gate_dst (N := 13) rfl ?_); refine wpList_append_fits_any _ rfl _ _ 22 rfl w.heap.size 61 i 3 Try.underlying22 HI.out HZ1.out ga 0 (ps.length + 2) [] rfl HOa.out A1 ps.length c1 inner rfl HL.out (fun e => ⟨HA.out e, HN.out e⟩) (fun ad e j u hu => pw_cell_below HB.out (HC.out ad e j u hu)) (row_one61 HR.out) (by omega) ?_; intro w4 hown hg; simp only [Nat.zero_add, List.nil_append] at hown; clear HOa; have HOa := Aside0.mk hown; clear hx0 hx1 hx2; have n0_ := Aside0.mk (blk_grown BK1.out hg (by simpa using NE1ga.out)); have n1_ := Aside0.mk (blk_grown BK2.out hg (by simpa using NE2ga.out)); have n2_ := Aside0.mk (HB.out.grown hg HB.out.size (by rintro k ⟨⟩; exact GEga.out)); clear BK1; clear BK2; clear HB; have BK1 := n0_; have BK2 := n1_; have HB := n2_; clear n0_ n1_ n2_; clear hown hg; have hx0 : w4.cell? ⟨gb1, 0, none⟩ = some (.string t) := (blk_cell BK1.out 0).trans rfl; have hx1 : w4.cell? ⟨gb1, 1, none⟩ = some (.slice A1 ps.length c1) := (blk_cell BK1.out 1).trans rfl; have hx2 : w4.cell? ⟨gb1, 2, none⟩ = some (.slice A2 ns.length c2) := (blk_cell BK1.out 2).trans rfl; rw [Nat.zero_add])
    | ((with_reducible refine gate_dst (N := 18) rfl ?_); refine wpList_append_fits _ rfl _ _ 22 rfl w.heap.size 61 i 3 Try.underlying22 HI.out HZ1.out ga ps.length (ps.length + 2) inner rfl (HOa.out.alloc _) ⟨w4.heap.size, 0, none⟩ 2 2 mcells61 rfl rfl (fun j u hu => mcell61 w4 j u hu) mcells61_one (by omega) ?_; intro w5 hown hg; clear HOa; have HOa := Aside0.mk hown; clear hx0 hx1 hx2; have n0_ := Aside0.mk (blk_grown (blk_alloc BK1.out (.cells mcells61.toArray 61)) hg (by simpa using NE1ga.out)); have n1_ := Aside0.mk (blk_grown (blk_alloc BK2.out (.cells mcells61.toArray 61)) hg (by simpa using NE2ga.out)); have n2_ := Aside0.mk ((below_alloc HB.out (.cells mcells61.toArray 61)).grown hg (below_alloc HB.out (.cells mcells61.toArray 61)).size (by rintro k ⟨⟩; exact GEga.out)); clear BK1; clear BK2; clear HB; have BK1 := n0_; have BK2 := n1_; have HB := n2_; clear n0_ n1_ n2_; clear hown hg; have hx0 : w5.cell? ⟨gb1, 0, none⟩ = some (.string t) := (blk_cell BK1.out 0).trans rfl; have hx1 : w5.cell? ⟨gb1, 1, none⟩ = some (.slice A1 ps.length c1) := (blk_cell BK1.out 1).trans rfl; have hx2 : w5.cell? ⟨gb1, 2, none⟩ = some (.slice A2 ns.length c2) := (blk_cell BK1.out 2).trans rfl)
    | ((with_reducible refine gate_dst (N := 24) rfl ?_); refine make_g rfl _ _ 23 rfl w.heap.size 47 i' _ 4 Try.underlying23 HI'.out HZ0'.out HZ1'.out _ _ _ (ns.length + 2) rfl rfl (by first | rfl | (simp; done) | omega) (by rw [HY'.out]; omega) (by unfold maxLen; omega) HB.out.size ?_; intro gc w6 hge hown hg; have HOb := Aside0.mk hown; have NE1gc := Aside0.mk (Nat.ne_of_lt (Nat.lt_of_lt_of_le (blk_lt BK1.out) hge)); have NE2gc := Aside0.mk (Nat.ne_of_lt (Nat.lt_of_lt_of_le (blk_lt BK2.out) hge)); have GEgc := Aside0.mk (Nat.le_trans HB.out.size hge); have NEa := Aside0.mk (Nat.ne_of_lt (Nat.lt_of_lt_of_le (own_lt HOa.out ga rfl) hge)); clear hx0 hx1 hx2; have n0_ := Aside0.mk (blk_grown BK1.out hg (by simp)); have n1_ := Aside0.mk (blk_grown BK2.out hg (by simp)); have n2_ := Aside0.mk (HB.out.grown hg HB.out.size (by simp)); have n3_ := Aside0.mk (HOa.out.kept hg (.inr (by simp [Value.ownBlock]))); clear BK1; clear BK2; clear HB; clear HOa; have BK1 := n0_; have BK2 := n1_; have HB := n2_; have HOa := n3_; clear n0_ n1_ n2_ n3_; clear hown hg hge; have hx0 : w6.cell? ⟨gb1, 0, none⟩ = some (.string t) := (blk_cell BK1.out 0).trans rfl; have hx1 : w6.cell? ⟨gb1, 1, none⟩ = some (.slice A1 ps.length c1) := (blk_cell BK1.out 1).trans rfl; have hx2 : w6.cell? ⟨gb1, 2, none⟩ = some (.slice A2 ns.length c2) := (blk_cell BK1.out 2).trans rfl)
    | ((with_reducible refine gate_dst (N := 29) rfl ?_); refine wpList_append_fits_any _ rfl _ _ 23 rfl w.heap.size 47 i' 4 Try.underlying23 HI'.out HZ1'.out gc 0 (ns.length + 2) [] rfl HOb.out A2 ns.length c2 inner' rfl HL'.out (fun e => ⟨HA'.out e, HN'.out e⟩) (fun ad e j u hu => pw_cell_below HB.out (HC'.out ad e j u hu)) (row_one47 HR'.out) (by omega) ?_; intro w7 hown hg; simp only [Nat.zero_add, List.nil_append] at hown; clear HOb; have HOb := Aside0.mk hown; clear hx0 hx1 hx2; have n0_ := Aside0.mk (blk_grown BK1.out hg (by simpa using NE1gc.out)); have n1_ := Aside0.mk (blk_grown BK2.out hg (by simpa using NE2gc.out)); have n2_ := Aside0.mk (HB.out.grown hg HB.out.size (by rintro k ⟨⟩; exact GEgc.out)); have n3_ := Aside0.mk (HOa.out.kept hg (.inr (by simpa [Value.ownBlock] using NEa.out))); clear BK1; clear BK2; clear HB; clear HOa; have BK1 := n0_; have BK2 := n1_; have HB := n2_; have HOa := n3_; clear n0_ n1_ n2_ n3_; clear hown hg; have hx0 : w7.cell? ⟨gb1, 0, none⟩ = some (.string t) := (blk_cell BK1.out 0).trans rfl; have hx1 : w7.cell? ⟨gb1, 1, none⟩ = some (.slice A1 ps.length c1) := (blk_cell BK1.out 1).trans rfl; have hx2 : w7.cell? ⟨gb1, 2, none⟩ = some (.slice A2 ns.length c2) := (blk_cell BK1.out 2).trans rfl; rw [Nat.zero_add])
    | ((with_reducible refine gate_dst (N := 34) rfl ?_); refine wpList_append_fits _ rfl _ _ 23 rfl w.heap.size 47 i' 4 Try.underlying23 HI'.out HZ1'.out gc ns.length (ns.length + 2) inner' rfl (HOb.out.alloc _) ⟨w7.heap.size, 0, none⟩ 2 2 mcells47 rfl rfl (fun j u hu => mcell47 w7 j u hu) mcells47_one (by omega) ?_; intro w8 hown hg; clear HOb; have HOb := Aside0.mk hown; clear hx0 hx1 hx2; have n0_ := Aside0.mk (blk_grown (blk_alloc BK1.out (.cells mcells47.toArray 47)) hg (by simpa using NE1gc.out)); have n1_ := Aside0.mk (blk_grown (blk_alloc BK2.out (.cells mcells47.toArray 47)) hg (by simpa using NE2gc.out)); have n2_ := Aside0.mk ((below_alloc HB.out (.cells mcells47.toArray 47)).grown hg (below_alloc HB.out (.cells mcells47.toArray 47)).size (by rintro k ⟨⟩; exact GEgc.out)); have n3_ := Aside0.mk ((HOa.out.alloc (.cells mcells47.toArray 47)).kept hg (.inr (by simpa [Value.ownBlock] using NEa.out))); clear BK1; clear BK2; clear HB; clear HOa; have BK1 := n0_; have BK2 := n1_; have HB := n2_; have HOa := n3_; clear n0_ n1_ n2_ n3_; clear hown hg; have hx0 : w8.cell? ⟨gb1, 0, none⟩ = some (.string t) := (blk_cell BK1.out 0).trans rfl; have hx1 : w8.cell? ⟨gb1, 1, none⟩ = some (.slice A1 ps.length c1) := (blk_cell BK1.out 1).trans rfl; have hx2 : w8.cell? ⟨gb1, 2, none⟩ = some (.slice A2 ns.length c2) := (blk_cell BK1.out 2).trans rfl; have hy0 : w8.cell? ⟨gb2, 0, none⟩ = some (.string ⟨#[]⟩) := (blk_cell BK2.out 0).trans rfl; have hz0 := blk_frozen BK2.out 0; have hy1 : w8.cell? ⟨gb2, 1, none⟩ = some (.slice none 0 0) := (blk_cell BK2.out 1).trans rfl; have hz1 := blk_frozen BK2.out 1; have hy2 : w8.cell? ⟨gb2, 2, none⟩ = some (.slice none 0 0) := (blk_cell BK2.out 2).trans rfl; have hz2 := blk_frozen BK2.out 2))
  go_region
  go_wp2
  have hfin : ((((w8.setCell ⟨gb2, 0, none⟩ (.string t)).setCell ⟨gb2, 1, none⟩ (.slice (some ⟨ga, 0, none⟩) ps.length (ps.length + 2))).setCell ⟨gb2, 2, none⟩ (.slice (some ⟨gc, 0, none⟩) ns.length (ns.length + 2))).drew).heap[gb2]? = some (.cells #[.string t, .slice (some ⟨ga, 0, none⟩) ps.length (ps.length + 2), .slice (some ⟨gc, 0, none⟩) ns.length (ns.length + 2)] 27 (0, 0)) := by
    refine blk_drew ?_
    refine blk_put (cs := #[.string t, .slice (some ⟨ga, 0, none⟩) ps.length (ps.length + 2), .slice none 0 0]) ?_ 2 _ rfl
    refine blk_put (cs := #[.string t, .slice none 0 0, .slice none 0 0]) ?_ 1 _ rfl
    refine blk_put (cs := #[.string ⟨#[]⟩, .slice none 0 0, .slice none 0 0]) ?_ 0 _ rfl
    exact BK2.out
  refine bodyPost_ret (results_cell_row rfl _ _ gb2 27 #[.string t, .slice (some ⟨ga, 0, none⟩) ps.length (ps.length + 2), .slice (some ⟨gc, 0, none⟩) ns.length (ns.length + 2)] (0, 0) _ rfl hfin Try.underlying27 rfl (by kernel_rfl)) rfl ?_
  have hb8 : Below w.heap.size w ((((w8.setCell ⟨gb2, 0, none⟩ (.string t)).setCell ⟨gb2, 1, none⟩ (.slice (some ⟨ga, 0, none⟩) ps.length (ps.length + 2))).setCell ⟨gb2, 2, none⟩ (.slice (some ⟨gc, 0, none⟩) ns.length (ns.length + 2))).drew) := by
    refine below_drew ?_
    refine below_set ?_ GE2.out
    refine below_set ?_ GE2.out
    refine below_set ?_ GE2.out
    exact HB.out
  have na : (some gb2 : Option Nat) ≠ some ga := by simpa using NE2ga.out
  have nc : (some gb2 : Option Nat) ≠ some gc := by simpa using NE2gc.out
  have ra := (own_set3 HOa.out (by simpa [Value.ownBlock] using Ne.symm na) 0 1 2 (.string t) (.slice (some ⟨ga, 0, none⟩) ps.length (ps.length + 2)) (.slice (some ⟨gc, 0, none⟩) ns.length (ns.length + 2))).drew
  have rc := (own_set3 HOb.out (by simpa [Value.ownBlock] using Ne.symm nc) 0 1 2 (.string t) (.slice (some ⟨ga, 0, none⟩) ps.length (ps.length + 2)) (.slice (some ⟨gc, 0, none⟩) ns.length (ns.length + 2))).drew
  exact ⟨_, _, rfl, C_of_own61 HR.out ra, R_of_own47 HR'.out rc, hb8⟩
end Go.Proofs.Ytodldpdnhcafpaa.H

namespace Go.Proofs.Ytodldpdnhcafpaa.O
open Go.ChangeShapes Go.WideShapes Go.Deep Go.Proofs.YtodldpdnhcafpaaW.PrintWords

/-- What a value of type t that came in is, as a Lean value of kind d; and what is known of it. -/
def Opens {α : Type} (P : Program) (t : TypeId) (d : Kd α) (B : α → Prop) : Prop :=
  ∀ {H : Type} {enc : TypeId × Value → H} {w : World} {base : Nat} {spare : Nat → Bool} {held : Bool} {fuel : Nat} {cs : List Value} {x : DataW H × List MemPlace},
    DataW.trod enc P w base spare held fuel t cs = some x → (∀ n ∈ x.1.weights P t, n ≤ reachBytes) → ∃ a, d.K w a cs ∧ B a

theorem opens_int {P : Program} {t : TypeId} {k : IntKind} (hu : P.underlying t = some (.int k)) : Opens P t (Kd.int k) (fun n => (Lit.int k n).wf = true) := fun h _ => by
  obtain ⟨n, rfl, rfl, hw⟩ := DataW.trod_int hu h
  exact ⟨n, rfl, hw⟩
theorem opens_string {P : Program} {t : TypeId} (hu : P.underlying t = some .string) : Opens P t Kd.string (fun s => s.size ≤ 140737488351232) := fun h hw => by
  obtain ⟨s, rfl, rfl, _⟩ := DataW.trod_string hu h
  refine ⟨s, rfl, ?_⟩
  have := hw s.data.toList.length (by simp [DataW.weights])
  rw [Array.length_toList] at this
  exact this

theorem mem_weightsAll {H : Type} {P : Program} {e : TypeId} : ∀ {l : List (DataW H)} {y : DataW H}, y ∈ l → ∀ n ∈ y.weights P e, n ∈ DataW.weightsAll P e l
  | y0 :: l, y, h, n, hn => by
    simp only [DataW.weightsAll, List.mem_append]
    rcases List.mem_cons.1 h with rfl | h
    · exact .inl hn
    · exact .inr (mem_weightsAll h n hn)

/-- A slice that came in, its address and capacity told. -/
theorem open_row {α : Type} {P : Program} {t e : TypeId} {d : Kd α} {B : α → Prop} (hu : P.underlying t = some (.slice e)) (he : Opens P e d B) (hc : P.cellsOf e = d.sz)
    {H : Type} {enc : TypeId × Value → H} {w : World} {base : Nat} {spare : Nat → Bool} {held : Bool} {fuel : Nat} {A : Option Addr} {n c : Nat} {x : DataW H × List MemPlace}
    (h : DataW.trod enc P w base spare held fuel t [.slice A n c] = some x) (hw : ∀ n ∈ x.1.weights P t, n ≤ reachBytes) :
    ∃ xs : List α, xs.length = n ∧ d.C w A n xs ∧ n ≤ c ∧ (A = none → c = 0) ∧ (∀ a ∈ xs, B a) ∧ n * P.bytesOf e ≤ 140737488351232 := by
  rcases open_slice hu h with ⟨hcs, rfl⟩ | ⟨a, len, cap, m, fu, D, Pl, hcs, hb, hl, hm, hmm, rfl, hel⟩
  · simp only [List.cons.injEq, Value.slice.injEq, and_true] at hcs
    obtain ⟨rfl, rfl, rfl⟩ := hcs
    exact ⟨[], rfl, ⟨rfl, by omega, fun h0 => absurd h0 (by omega)⟩, by omega, fun _ => rfl, (fun a ha => by cases ha), by omega⟩
  · simp only [List.cons.injEq, Value.slice.injEq, and_true] at hcs
    obtain ⟨rfl, rfl, rfl⟩ := hcs
    have hlm : n ≤ m := by rw [hmm]; split <;> omega
    have hex : ∀ i, i < n → ∃ v : α, (∃ cs, d.K w v cs ∧ ∀ j u, cs[j]? = some u → w.cell? (a.add (i * d.sz + j)) = some u) ∧ B v := by
      intro i hi
      obtain ⟨cs', hc1, hc2⟩ := hel i (by omega)
      have hmem : D i ∈ (List.range n).map D := List.mem_map.2 ⟨i, List.mem_range.2 hi, rfl⟩
      obtain ⟨v, hv, hB⟩ := he hc2 (fun q hq => hw q (by
        simp only [DataW.weights, hu, List.mem_cons, List.mem_append]
        exact .inr (.inl (mem_weightsAll hmem q hq))))
      refine ⟨v, ⟨cs', hv, fun j u hj => ?_⟩, hB⟩
      obtain ⟨_, hcl, hat⟩ := World.cells?_some hc1
      have hjl : j < cs'.length := (List.getElem?_eq_some_iff.1 hj).1
      have := hat j (by omega)
      rw [hc] at this
      rw [← Go.Deep.add_add, this, hj]
    have key : ∀ k, k ≤ n → ∃ xs : List α, xs.length = k ∧ (∀ j p, xs[j]? = some p → (∃ cs, cs.length = d.sz ∧ d.K w p cs ∧ ∀ i u, cs[i]? = some u → w.cell? (a.add (j * d.sz + i)) = some u) ∧ B p) := by
      intro k
      induction k with
      | zero => intro _; exact ⟨[], rfl, fun j p hj => by simp at hj⟩
      | succ k ih =>
        intro hk
        obtain ⟨xs, hx, hxs⟩ := ih (by omega)
        obtain ⟨v, ⟨cs, hv, hcell⟩, hB⟩ := hex k (by omega)
        refine ⟨xs ++ [v], by simp [hx], fun j p hj => ?_⟩
        rcases Nat.lt_or_ge j k with hjk | hjk
        · rw [List.getElem?_append_left (by omega)] at hj
          exact hxs j p hj
        · have hjl := (List.getElem?_eq_some_iff.1 hj).1
          rw [List.length_append, List.length_singleton] at hjl
          obtain rfl : j = k := by omega
          have hp : v = p := by simpa [List.getElem?_append_right, hx] using hj
          subst hp
          exact ⟨⟨cs, d.K_len hv, hv, hcell⟩, hB⟩
    obtain ⟨xs, hx, hxs⟩ := key n (Nat.le_refl _)
    refine ⟨xs, hx, ⟨hx, by have : maxLen = 9223372036854775807 := rfl; omega, fun _ => ⟨a, rfl, fun j p hj => (hxs j p hj).1⟩⟩, hl, (fun h => by cases h), fun v hv => ?_, ?_⟩
    · obtain ⟨j, hj, rfl⟩ := List.mem_iff_getElem.1 hv
      exact (hxs j _ (List.getElem?_eq_getElem hj)).2
    · have := hw ((((List.range n).map D).length + ((List.range (m - n)).map fun j => D (n + j)).length) * P.bytesOf e) (by
        simp only [DataW.weights, hu]
        exact List.mem_cons_self)
      simp only [List.length_map, List.length_range] at this
      have h2 : n * P.bytesOf e ≤ (n + (m - n)) * P.bytesOf e := Nat.mul_le_mul_right _ (by omega)
      have h3 : reachBytes = 140737488351232 := rfl
      omega

end Go.Proofs.Ytodldpdnhcafpaa.O

namespace Go.Proofs.Ytodldpdnhcafpaa.H
open Go.ChangeShapes Go.WideShapes Go.Deep Go.Proofs.YtodldpdnhcafpaaW.PrintWords Go.Proofs.Ytodldpdnhcafpaa.F

theorem cells3 : Try.prog.cellsOf 3 = 1 := by kernel_rfl
theorem cells9 : Try.prog.cellsOf 9 = 1 := by kernel_rfl
theorem cells22 : Try.prog.cellsOf 22 = 1 := by kernel_rfl
theorem cells23 : Try.prog.cellsOf 23 = 1 := by kernel_rfl
theorem cells25 : Try.prog.cellsOf 25 = 1 := by kernel_rfl
theorem cells27 : Try.prog.cellsOf 27 = 3 := by kernel_rfl
theorem cells45 : Try.prog.cellsOf 45 = 1 := by kernel_rfl
theorem cells59 : Try.prog.cellsOf 59 = 1 := by kernel_rfl
theorem bytes61 : Try.prog.bytesOf 61 = 24 := by kernel_rfl
theorem bytes47 : Try.prog.bytesOf 47 = 32 := by kernel_rfl
def B61 (x : S61) : Prop := (Lit.int .u8 x.f0).wf = true ∧ (Lit.int .i64 x.f1).wf = true ∧ (Lit.int .i64 x.f2).wf = true
theorem cells61 : Try.prog.cellsOf 61 = 3 := by kernel_rfl
theorem opens61 : O.Opens Try.prog 61 k61 B61 := by
  intro H enc w base spare held fuel cs x h hw
  obtain ⟨ys, n, rfl, rfl, hlen, hyl, hf⟩ := DataW.trod_struct Try.underlying61 h
  rw [cells61] at hlen
  obtain ⟨c0, c1, c2, rfl⟩ : ∃ c0 c1 c2, cs = [c0, c1, c2] := by
    match cs, hlen with
    | [c0, c1, c2], _ => exact ⟨c0, c1, c2, rfl⟩
  obtain ⟨y0, y1, y2, rfl⟩ : ∃ y0 y1 y2, ys = [y0, y1, y2] := by
    match ys, hyl with
    | [y0, y1, y2], _ => exact ⟨y0, y1, y2, rfl⟩
  have f0 := hf 0 { name := "Kind", type := 59, offset := 0, embedded := false, tag := "", pkgPath := "", byteOffset := 0 } rfl
  have f1 := hf 1 { name := "From", type := 3, offset := 1, embedded := false, tag := "", pkgPath := "", byteOffset := 8 } rfl
  have f2 := hf 2 { name := "To", type := 3, offset := 2, embedded := false, tag := "", pkgPath := "", byteOffset := 16 } rfl
  simp only [cells3, cells59, List.drop_zero, List.drop_succ_cons, List.take_succ_cons, List.take_zero, List.getElem?_cons_zero, List.getElem?_cons_succ] at f0 f1 f2
  have hq : ∀ (j : Nat) (t : TypeId) (d : DataW H), [59, 3, 3][j]? = some t → [y0.1, y1.1, y2.1][j]? = some d → ∀ n ∈ d.weights Try.prog t, n ≤ reachBytes := by
    intro j t d h1 h2 q hq
    refine hw q ?_
    simp only [DataW.weights, Try.underlying61]
    exact DataW.weights_mem_each (j := j) h1 h2 q hq
  obtain ⟨a0, e0, w0⟩ := O.opens_int Try.underlying59 f0 (hq 0 _ _ rfl rfl)
  obtain rfl : c0 = .int .u8 a0 := (List.cons.inj e0).1
  obtain ⟨a1, e1, w1⟩ := O.opens_int Try.underlying3 f1 (hq 1 _ _ rfl rfl)
  obtain rfl : c1 = .int .i64 a1 := (List.cons.inj e1).1
  obtain ⟨a2, e2, w2⟩ := O.opens_int Try.underlying3 f2 (hq 2 _ _ rfl rfl)
  obtain rfl : c2 = .int .i64 a2 := (List.cons.inj e2).1
  exact ⟨⟨a0, a1, a2⟩, k61_mk w _, w0, w1, w2⟩
def B47 (x : S47) : Prop := (Lit.int .u8 x.f0).wf = true ∧ (Lit.int .i64 x.f1).wf = true ∧ (Lit.int .i64 x.f2).wf = true ∧ (Lit.int .i64 x.f3).wf = true
theorem cells47 : Try.prog.cellsOf 47 = 4 := by kernel_rfl
theorem opens47 : O.Opens Try.prog 47 k47 B47 := by
  intro H enc w base spare held fuel cs x h hw
  obtain ⟨ys, n, rfl, rfl, hlen, hyl, hf⟩ := DataW.trod_struct Try.underlying47 h
  rw [cells47] at hlen
  obtain ⟨c0, c1, c2, c3, rfl⟩ : ∃ c0 c1 c2 c3, cs = [c0, c1, c2, c3] := by
    match cs, hlen with
    | [c0, c1, c2, c3], _ => exact ⟨c0, c1, c2, c3, rfl⟩
  obtain ⟨y0, y1, y2, y3, rfl⟩ : ∃ y0 y1 y2 y3, ys = [y0, y1, y2, y3] := by
    match ys, hyl with
    | [y0, y1, y2, y3], _ => exact ⟨y0, y1, y2, y3, rfl⟩
  have f0 := hf 0 { name := "Kind", type := 45, offset := 0, embedded := false, tag := "", pkgPath := "", byteOffset := 0 } rfl
  have f1 := hf 1 { name := "First", type := 3, offset := 1, embedded := false, tag := "", pkgPath := "", byteOffset := 8 } rfl
  have f2 := hf 2 { name := "End", type := 3, offset := 2, embedded := false, tag := "", pkgPath := "", byteOffset := 16 } rfl
  have f3 := hf 3 { name := "Size", type := 3, offset := 3, embedded := false, tag := "", pkgPath := "", byteOffset := 24 } rfl
  simp only [cells3, cells45, List.drop_zero, List.drop_succ_cons, List.take_succ_cons, List.take_zero, List.getElem?_cons_zero, List.getElem?_cons_succ] at f0 f1 f2 f3
  have hq : ∀ (j : Nat) (t : TypeId) (d : DataW H), [45, 3, 3, 3][j]? = some t → [y0.1, y1.1, y2.1, y3.1][j]? = some d → ∀ n ∈ d.weights Try.prog t, n ≤ reachBytes := by
    intro j t d h1 h2 q hq
    refine hw q ?_
    simp only [DataW.weights, Try.underlying47]
    exact DataW.weights_mem_each (j := j) h1 h2 q hq
  obtain ⟨a0, e0, w0⟩ := O.opens_int Try.underlying45 f0 (hq 0 _ _ rfl rfl)
  obtain rfl : c0 = .int .u8 a0 := (List.cons.inj e0).1
  obtain ⟨a1, e1, w1⟩ := O.opens_int Try.underlying3 f1 (hq 1 _ _ rfl rfl)
  obtain rfl : c1 = .int .i64 a1 := (List.cons.inj e1).1
  obtain ⟨a2, e2, w2⟩ := O.opens_int Try.underlying3 f2 (hq 2 _ _ rfl rfl)
  obtain rfl : c2 = .int .i64 a2 := (List.cons.inj e2).1
  obtain ⟨a3, e3, w3⟩ := O.opens_int Try.underlying3 f3 (hq 3 _ _ rfl rfl)
  obtain rfl : c3 = .int .i64 a3 := (List.cons.inj e3).1
  exact ⟨⟨a0, a1, a2, a3⟩, k47_mk w _, w0, w1, w2, w3⟩

theorem slice_cells {P : Program} {t e : TypeId} (hu : P.underlying t = some (.slice e)) {H : Type} {enc : TypeId × Value → H} {w : World} {base : Nat} {spare : Nat → Bool} {held : Bool} {fuel : Nat} {cs : List Value} {x : DataW H × List MemPlace}
    (h : DataW.trod enc P w base spare held fuel t cs = some x) : ∃ A n c, cs = [.slice A n c] := by
  rcases open_slice hu h with ⟨hcs, _⟩ | ⟨a, len, cap, m, fu, D, Pl, hcs, _⟩
  · exact ⟨_, _, _, hcs⟩
  · exact ⟨_, _, _, hcs⟩

/-- A Forest that came in. -/
theorem open27 {H : Type} {enc : TypeId × Value → H} {W : World} {base b0 : Nat} {r : Reach} {spare : Nat → Bool} {held : Bool} {v : Value} {d : DataW H} {p : List MemPlace} (hv : Value.okWide Try.prog W r b0 27 v) (h : DataW.Trod enc Try.prog W base spare held 27 v d p) (hw : ∀ n ∈ d.weights Try.prog 27, n ≤ reachBytes) :
    ∃ (t : ByteArray) (A1 : Option Addr) (c1 : Nat) (ps : List S61) (A2 : Option Addr) (c2 : Nat) (ns : List S47), v = .agg #[.string t, .slice A1 ps.length c1, .slice A2 ns.length c2] ∧ t.size ≤ 140737488351232 ∧
      Kd.C k61 W A1 ps.length ps ∧ ps.length ≤ c1 ∧ (A1 = none → c1 = 0) ∧ (∀ x ∈ ps, B61 x) ∧ ps.length * 24 ≤ 140737488351232 ∧ Kd.C k47 W A2 ns.length ns ∧ ns.length ≤ c2 ∧ (A2 = none → c2 = 0) ∧ (∀ x ∈ ns, B47 x) ∧ ns.length * 32 ≤ 140737488351232 := by
  obtain ⟨cs, rfl, hsz⟩ := okWide_struct Try.underlying27 hv
  rw [cells27] at hsz
  obtain ⟨l⟩ := cs
  obtain ⟨c0, c1, c2, rfl⟩ : ∃ a b c, l = [a, b, c] := by
    match l, hsz with
    | [a, b, c], _ => exact ⟨a, b, c, rfl⟩
  obtain ⟨fuel, hf⟩ := h
  obtain ⟨ys, n, _, hd, _, hyl, hg⟩ := DataW.trod_struct Try.underlying27 hf
  obtain ⟨y0, y1, y2, rfl⟩ : ∃ a b c, ys = [a, b, c] := by
    match ys, hyl with
    | [a, b, c], _ => exact ⟨a, b, c, rfl⟩
  obtain ⟨rfl, rfl⟩ := Prod.mk.inj hd
  have f0 := hg 0 { name := "Text", type := 9, offset := 0, embedded := false, tag := "", pkgPath := "", byteOffset := 0 } rfl
  have f1 := hg 1 { name := "Pieces", type := 22, offset := 1, embedded := false, tag := "", pkgPath := "", byteOffset := 16 } rfl
  have f2 := hg 2 { name := "Tree", type := 25, offset := 2, embedded := false, tag := "", pkgPath := "", byteOffset := 40 } rfl
  simp only [Value.cells, cells9, cells22, cells25, List.drop_zero, List.drop_succ_cons, List.take_succ_cons, List.take_zero, List.getElem?_cons_zero, List.getElem?_cons_succ] at f0 f1 f2
  have hq : ∀ (j : Nat) (t : TypeId) (d : DataW H), [9, 22, 25][j]? = some t → [y0.1, y1.1, y2.1][j]? = some d → ∀ n ∈ d.weights Try.prog t, n ≤ reachBytes := by
    intro j t d h1 h2 q hq
    refine hw q ?_
    simp only [DataW.weights, Try.underlying27]
    exact DataW.weights_mem_each (j := j) h1 h2 q hq
  obtain ⟨t, e0, ht⟩ := O.opens_string Try.underlying9 f0 (hq 0 _ _ rfl rfl)
  obtain rfl : c0 = .string t := (List.cons.inj e0).1
  obtain ⟨A1, n1, k1, e1⟩ := slice_cells Try.underlying22 f1
  obtain rfl : c1 = .slice A1 n1 k1 := (List.cons.inj e1).1
  obtain ⟨ps, rfl, p1, p2, p3, p4, p5⟩ := O.open_row Try.underlying22 opens61 cells61 f1 (hq 1 _ _ rfl rfl)
  obtain ⟨zs, n', _, hz, _, hzl, hg2⟩ := DataW.trod_struct Try.underlying25 f2
  obtain ⟨z0, rfl⟩ : ∃ a, zs = [a] := by
    match zs, hzl with
    | [a], _ => exact ⟨a, rfl⟩
  have f3 := hg2 0 { name := "Nodes", type := 23, offset := 0, embedded := false, tag := "", pkgPath := "", byteOffset := 0 } rfl
  simp only [cells23, List.drop_zero, List.take_succ_cons, List.take_zero, List.getElem?_cons_zero] at f3
  obtain ⟨A2, n2, k2, e2⟩ := slice_cells Try.underlying23 f3
  obtain rfl : c2 = .slice A2 n2 k2 := (List.cons.inj e2).1
  have hq3 : ∀ n ∈ z0.1.weights Try.prog 23, n ≤ reachBytes := by
    intro q hq1
    refine hq 2 _ _ rfl rfl q ?_
    rw [hz]
    simp only [List.map_cons, List.map_nil, DataW.weights, Try.underlying25]
    exact DataW.weights_mem_each (j := 0) (ts := [23]) (ds := [z0.1]) rfl rfl q hq1
  obtain ⟨ns, rfl, q1, q2, q3, q4, q5⟩ := O.open_row Try.underlying23 opens47 cells47 f3 hq3
  rw [bytes61] at p5
  rw [bytes47] at q5
  exact ⟨t, A1, k1, ps, A2, k2, ns, rfl, ht, p1, p2, p3, p4, p5, q1, q2, q3, q4, q5⟩
end Go.Proofs.Ytodldpdnhcafpaa.H

-- made by wip/mkllater.py: the law TreeLater
namespace Go.Proofs.Ytodldpdnhcafpaa.L
open Go.RowKit Go.Shelf Go.Proofs.YtodldpdnhcafpaaW.PrintWords Go.Proofs.YtodldpdnhcafpaaW.PrintLast Go.Proofs.YtodldpdnhcafpaaW.PrintMore
open Go.Proofs.Ytodldpdnhcafpaa.F Go.Proofs.Ytodldpdnhcafpaa.H Go.Proofs.Ytodldpdnhcafpaa.K
attribute [local go_sem] Oper.semAt_some
set_option linter.unusedVariables false
set_option linter.unusedSimpArgs false

/-- Each fifth node's size is 1, as far as that. -/
def fives (ns : List S47) (k : Nat) : List S47 := ns.mapIdx (fun i x => if i < k ∧ i % 5 = 3 then ⟨x.f0, x.f1, x.f2, 1⟩ else x)
theorem fives_len (ns : List S47) (k : Nat) : (fives ns k).length = ns.length := by simp [fives]
theorem fives_zero (ns : List S47) : fives ns 0 = ns := by
  apply List.ext_getElem (by simp [fives])
  intro i h1 h2
  simp [fives]
theorem fives_miss {ns : List S47} {k : Nat} (h : k % 5 ≠ 3) : fives ns (k + 1) = fives ns k := by
  apply List.ext_getElem (by simp [fives])
  intro i h1 h2
  simp only [fives, List.getElem_mapIdx]
  by_cases hi : i = k
  · subst hi; simp [h]
  · have e : (i < k + 1) = (i < k) := by apply propext; omega
    simp only [e]
theorem fives_hit {ns : List S47} {k : Nat} (hk : k < ns.length) (h : k % 5 = 3) : (fives ns k).set k ⟨(rd_T47 (fives ns k) (k : Int)).f0, (rd_T47 (fives ns k) (k : Int)).f1, (rd_T47 (fives ns k) (k : Int)).f2, 1⟩ = fives ns (k + 1) := by
  have hk' : k < (fives ns k).length := by rw [fives_len]; exact hk
  have e : rd_T47 (fives ns k) (k : Int) = ns[k] := by
    simp only [rd_T47, rdOf, Int.toNat_natCast, List.getD_eq_getElem?_getD]
    rw [List.getElem?_eq_getElem hk']
    simp [fives]
  rw [e]
  apply List.ext_getElem (by simp [fives])
  intro i h1 h2
  rw [List.getElem_set]
  by_cases hi : k = i
  · subst hi; simp [fives, h]
  · rw [if_neg hi]
    simp only [fives, List.getElem_mapIdx]
    have e2 : (i < k + 1) = (i < k) := by apply propext; omega
    simp only [e2]

/-- A node's size is written. -/
theorem five_store {W : World} {base gc cap : Nat} {xs : List S47} (h : Kd.R k47 47 W base (fun _ => True) (.slice (some ⟨gc, 0, none⟩) xs.length cap) xs) (i : Int) (h0 : 0 ≤ i) (h1 : i < (xs.length : Int)) :
    (∃ u, W.cell? ⟨gc, i.toNat * 4 + 3, none⟩ = some (.int .i64 u)) ∧ Kd.R k47 47 (W.setCell ⟨gc, i.toNat * 4 + 3, none⟩ (.int .i64 1)) base (fun _ => True) (.slice (some ⟨gc, 0, none⟩) xs.length cap) (xs.set i.toNat ⟨(rd_T47 xs i).f0, (rd_T47 xs i).f1, (rd_T47 xs i).f2, 1⟩) := by
  obtain ⟨c, hcl, hM, hcc, _⟩ := Kd.R_elem h z47 i h0 h1
  obtain rfl := k47_openM hM
  refine ⟨⟨_, hcc 3 _ rfl⟩, ?_⟩
  exact (Kd.R_seg h i h0 h1 (seg := [.int .i64 1]) (j := 3) (okp := fun _ => False) hcl hcc (by decide) (k47_mkM _ _ _ ⟨(rd_T47 xs i).f0, (rd_T47 xs i).f1, (rd_T47 xs i).f2, 1⟩) (fun _ h => h.elim)).1
theorem fives_store {W : World} {base gc : Nat} {ns : List S47} {x : Int} (h : Kd.R k47 47 W base (fun _ => True) (.slice (some ⟨gc, 0, none⟩) ns.length (ns.length + 2)) (fives ns x.toNat)) (h0 : 0 ≤ x) (h1 : x < (ns.length : Int)) (h5 : x.toNat % 5 = 3) :
    (∃ u, W.cell? ⟨gc, x.toNat * 4 + 3, none⟩ = some (.int .i64 u)) ∧ Kd.R k47 47 (W.setCell ⟨gc, x.toNat * 4 + 3, none⟩ (.int .i64 1)) base (fun _ => True) (.slice (some ⟨gc, 0, none⟩) ns.length (ns.length + 2)) (fives ns (x + 1).toNat) := by
  have hl := fives_len ns x.toNat
  have h' : Kd.R k47 47 W base (fun _ => True) (.slice (some ⟨gc, 0, none⟩) (fives ns x.toNat).length (ns.length + 2)) (fives ns x.toNat) := by rw [hl]; exact h
  obtain ⟨a, b⟩ := five_store h' x h0 (by rw [hl]; exact h1)
  refine ⟨a, ?_⟩
  have hk : x.toNat < ns.length := by omega
  have hh := fives_hit hk h5
  rw [show ((x.toNat : Nat) : Int) = x by omega] at hh
  rw [hh, hl] at b
  rw [show (x + 1).toNat = x.toNat + 1 by omega]
  exact b

/-- What lies still while the nodes are written over. -/
structure Lat (t : ByteArray) (A : Option Addr) (m1 gc nl : Nat) (n bits : Int) (g6 g7 g8 bc p1 p2 p3 : Nat) (W : World) : Prop where
  b6 : W.heap[g6]? = some (.cells #[.bool false] 4 (0, 0))
  b7 : W.heap[g7]? = some (.cells #[.string t, .slice A m1 (m1 + 2), .slice (some ⟨gc, 0, none⟩) nl (nl + 2)] 27 (0, 0))
  b8 : W.heap[g8]? = some (.cells #[.func (.func 50) #[] #[.pointer (some ⟨p1, 0, none⟩), .pointer (some ⟨p2, 0, none⟩), .pointer (some ⟨p3, 0, none⟩)]] 38 (0, 0))
  bb : W.heap[bc]? = some (.cells #[.int .u64 bits] 36 (0, 0))
  q1 : W.heap[p1]? = some (.cells #[.slice (some ⟨gc, 0, none⟩) nl (nl + 2)] 25 (0, 0))
  q2 : W.heap[p2]? = some (.cells #[.int .i64 n] 3 (0, 0))
  q3 : W.heap[p3]? = some (.cells #[.func (.func 52) #[] #[.pointer (some ⟨bc, 0, none⟩)]] 40 (0, 0))
theorem Lat.below {t : ByteArray} {A : Option Addr} {m1 gc nl : Nat} {n bits : Int} {g6 g7 g8 bc p1 p2 p3 : Nat} {W W' : World} (h : Lat t A m1 gc nl n bits g6 g7 g8 bc p1 p2 p3 W) (hb : Below W.heap.size W W') : Lat t A m1 gc nl n bits g6 g7 g8 bc p1 p2 p3 W' :=
  ⟨blk_below h.b6 hb, blk_below h.b7 hb, blk_below h.b8 hb, blk_below h.bb hb, blk_below h.q1 hb, blk_below h.q2 hb, blk_below h.q3 hb⟩
theorem Lat.set {t : ByteArray} {A : Option Addr} {m1 gc nl : Nat} {n bits : Int} {g6 g7 g8 bc p1 p2 p3 : Nat} {W : World} (h : Lat t A m1 gc nl n bits g6 g7 g8 bc p1 p2 p3 W) {cells : Array Value} (hc : W.heap[gc]? = some (.cells cells 47 (0, 0))) (o : Nat) (u : Value) : Lat t A m1 gc nl n bits g6 g7 g8 bc p1 p2 p3 (W.setCell ⟨gc, o, none⟩ u) := by
  have far : ∀ (g ty : Nat) (cs : Array Value), ty ≠ 47 → W.heap[g]? = some (.cells cs ty (0, 0)) → (W.setCell ⟨gc, o, none⟩ u).heap[g]? = some (.cells cs ty (0, 0)) := fun g ty cs ht hg =>
    (Below.heap_setCell W ⟨gc, o, none⟩ u g (fun e => by
      have e' : g = gc := e
      rw [e', hc] at hg
      injection hg with hg
      injection hg with _ h2 _
      exact ht h2.symm)).trans hg
  exact ⟨far _ _ _ (by decide) h.b6, far _ _ _ (by decide) h.b7, far _ _ _ (by decide) h.b8, far _ _ _ (by decide) h.bb, far _ _ _ (by decide) h.q1, far _ _ _ (by decide) h.q2, far _ _ _ (by decide) h.q3⟩
@[local go_sem] theorem run_store_func {P : Program} {w : World} {a : Addr} {m : Mode} (g : Fn) (x y : Array Value) : (store a (.func g x y) m).run P w = stored P w a (.func g x y) m := run_store P w a _ m rfl
theorem fn38L (W : World) (lb : Array Value) : (binOp BinOp.eql 38 (Value.func (.func 50) #[] lb) Value.nilFunc).run Try.prog W = .ok (.bool false) W := by
  first | rfl | (simp [binOp, go_sem, Try.underlying38]; done)
/-- One more is right. -/
theorem pre_snoc {xs ys : List Int} {x : Int} (h : xs <+: ys) : (xs ++ [x] <+: ys) ↔ (xs.length < ys.length ∧ rd ys (xs.length : Int) = x) := by
  obtain ⟨zs, rfl⟩ := h
  rw [List.prefix_append_right_inj]
  cases zs with
  | nil => simp
  | cons z zs => simp [rd, rdOf, List.getD_eq_getElem?_getD, eq_comm]
/-- rf1, where the body is told of its loop's record; deeper. -/
theorem rf1H {P : Program} {α : Type} {g : Operand} {p s : Tmp} {assign body : Code} {Q : Exit → Act → World → Prop} {a : Act} {w : World} {gf : Nat} {lb : Array Value}
    (hg : a.eval g = .func (.func gf) #[] lb) (eg : ∀ args w, (callFunc gf args).run P w = .ok (.enter gf args) w)
    {enc : α → Value} {Kp : World → World → Prop} {S Sp : List α → Prop} {N : Nat} (hseq : SeqStopsK Fence.wide 8 P gf lb (fun x => #[enc x]) Kp S Sp N w)
    (hKt : ∀ {A B C : World}, Kp A B → Kp B C → Kp A C) (hKb : ∀ (W : World) (l : Nat) (o o' : Obj), w.heap.size ≤ l → W.heap[l]? = some o → o.isCells = false → o.isWalk = false → Kp W (W.putObj l o')) (hKr : ∀ W, Kp W W)
    (I : List α → World → Prop) (Ix : Code → List α → World → Prop) (hI : OwnFrom w.heap.size I) (hIx : ∀ c, OwnFrom w.heap.size (Ix c)) (h0 : I [] w)
    (hassign : ∀ (l : Nat) (x : α) (W : World) (K : Act → World → Prop), K { tmps := (a.tmps.setIfInBounds p (enc x)).setIfInBounds s (enc x), defers := [] } W →
      assign.wpIn (Fence.wide.inRound l) 7 P (Exit.then K (fun _ _ _ => False)) { tmps := a.tmps.setIfInBounds p (enc x), defers := [] } W)
    (hbody : ∀ (l : Nat) (pre : List α) (x : α) (W : World), w.heap.size ≤ l → (∃ r, W.heap[l]? = some (.loop r)) → I pre W → pre.length < N → body.wpIn (Fence.wide.inRound l) 7 P (ownPostG w.heap.size Kp I Ix (pre ++ [x]) W) { tmps := (a.tmps.setIfInBounds p (enc x)).setIfInBounds s (enc x), defers := [] } W)
    (hdone : ∀ (D : Nat) (xs : List α) (W : World), w.heap.size ≤ D → S xs → I xs W → W.heap[D]? = some (.deferred (some [])) → Q .normal { a with defers := { target := .collected D, args := #[] } :: a.defers } W)
    (hstop : ∀ (D : Nat) (c : Code) (pre : List α) (W : World), w.heap.size ≤ D → Sp pre → Ix c pre W → W.heap[D]? = some (.deferred (some [])) → c.wp P Q { a with defers := { target := .collected D, args := #[] } :: a.defers } W) :
    (Code.rangeFunc g #[p] assign body).wp P Q a w :=
  (wpIn_wide (n := 9)).1 (wpIn_rangeFunc_ownH (F := Fence.wide) (n := 9) rfl (by omega) hg trivial eg hseq (fun h k => hKt h k) hKb (Below.refl _ _) (fun _ => rfl) I Ix hI hIx h0
    (fun x a' _ => a' = { tmps := (a.tmps.setIfInBounds p (enc x)).setIfInBounds s (enc x), defers := [] }) (fun _ _ _ _ _ _ hs _ _ => hs)
    (fun l pre x W K hi hK => by simpa using hassign l x W K (hK _ _ (KeepsFrom.refl _ _) (hKr W) hi rfl)) (fun l pre x a' W h1 h2 hi e => by subst e; exact hbody l pre x W h1 h2 hi) hdone
    (fun D c pre W a b c' d => wpIn_wide.2 (hstop D c pre W a b c' d)))
/-- rf1 within a round. -/
theorem rf1N {P : Program} {α : Type} {g : Operand} {p s : Tmp} {assign body : Code} {Q : Exit → Act → World → Prop} {a : Act} {w : World} {gf : Nat} {lb : Array Value} {l₀ : Nat} {r₀ : Loop} (hl₀ : w.heap[l₀]? = some (.loop r₀))
    (hg : a.eval g = .func (.func gf) #[] lb) (eg : ∀ args w, (callFunc gf args).run P w = .ok (.enter gf args) w)
    {enc : α → Value} {Kp : World → World → Prop} {S Sp : List α → Prop} {N : Nat} (hseq : SeqStopsK Fence.wide 6 P gf lb (fun x => #[enc x]) Kp S Sp N w)
    (hKt : ∀ {A B C : World}, Kp A B → Kp B C → Kp A C) (hKb : ∀ (W : World) (l : Nat) (o o' : Obj), w.heap.size ≤ l → W.heap[l]? = some o → o.isCells = false → o.isWalk = false → Kp W (W.putObj l o')) (hKr : ∀ W, Kp W W)
    (I : List α → World → Prop) (Ix : Code → List α → World → Prop) (hI : OwnFrom w.heap.size I) (hIx : ∀ c, OwnFrom w.heap.size (Ix c)) (h0 : I [] w)
    (hassign : ∀ (l : Nat) (x : α) (W : World) (K : Act → World → Prop), K { tmps := (a.tmps.setIfInBounds p (enc x)).setIfInBounds s (enc x), defers := [] } W →
      assign.wpIn (Fence.wide.inRound l) 5 P (Exit.then K (fun _ _ _ => False)) { tmps := a.tmps.setIfInBounds p (enc x), defers := [] } W)
    (hbody : ∀ (l : Nat) (pre : List α) (x : α) (W : World), I pre W → pre.length < N → body.wpIn (Fence.wide.inRound l) 5 P (ownPostG w.heap.size Kp I Ix (pre ++ [x]) W) { tmps := (a.tmps.setIfInBounds p (enc x)).setIfInBounds s (enc x), defers := [] } W)
    (hdone : ∀ (xs : List α) (W : World), S xs → I xs W → Q .normal a W)
    (hstop : ∀ (c : Code) (pre : List α) (W : World), Sp pre → Ix c pre W → c.wpIn (Fence.wide.inRound l₀) 7 P Q a W) :
    (Code.rangeFunc g #[p] assign body).wpIn (Fence.wide.inRound l₀) 7 P Q a w :=
  wpIn_rangeFunc_ownN (F := Fence.wide.inRound l₀) (n := 7) (l₀ := l₀) (r₀ := r₀) rfl hl₀ (by omega) hg trivial eg (hseq.inRound l₀) (fun h k => hKt h k) hKb (Below.refl _ _) (fun _ => rfl) I Ix hI hIx h0
    (fun x a' _ => a' = { tmps := (a.tmps.setIfInBounds p (enc x)).setIfInBounds s (enc x), defers := [] }) (fun _ _ _ _ _ _ hs _ _ => hs)
    (fun l pre x W K hi hK => by have h := hassign l x W K (hK _ _ (KeepsFrom.refl _ _) (hKr W) hi rfl); rw [show (Fence.wide.inRound l₀).inRound l = Fence.wide.inRound l from rfl]; simpa using h) (fun l pre x a' W _ _ hi e => by subst e; exact hbody l pre x W hi) hdone hstop
/-- What a round of the outer loop finds: so far all is as wanted. -/
def LI (ws : List Int) (w8 wk : World) (g11 : Nat) (xs : List Int) (W : World) : Prop := xs <+: ws ∧ (W.heap[g11]? = some (.cells #[.int .i64 (xs.length : Int)] 3 (0, 0)) ∧ (KeepB w8 g11 W ∧ Below wk.heap.size wk W))
theorem LI.own {α : Type} (ws : List Int) (w8 wk : World) (g11 : Nat) (hs : wk.heap.size ≤ w8.heap.size) (f : List α → List Int) : OwnFrom w8.heap.size (fun pre W => LI ws w8 wk g11 (f pre) W) :=
  OwnFrom.and (fun _ _ _ _ h _ _ => h) (OwnFrom.and (fun _ _ _ _ h hg hr => blk_own h hg (fun r e => (hr r e).2)) (OwnFrom.and (keepB_own w8 g11) (ownFrom_below (Nat.le_refl _) hs)))
theorem LI.step {ws : List Int} {w8 wk : World} {g11 p1 p2 p3 B : Nat} {xs : List Int} {x : Int} {W W' : World} (h : LI ws w8 wk g11 xs W) (hb : Below W.heap.size W W') (hx : xs ++ [x] <+: ws) (hg : wk.heap.size ≤ g11) (hp : p1 < wk.heap.size ∧ p2 < wk.heap.size ∧ p3 < wk.heap.size) (h8 : wk.heap.size ≤ w8.heap.size) (n : Int) (hn : n = (xs.length : Int) + 1) :
    KeepsFrom B W (W'.setCell ⟨g11, 0, none⟩ (.int .i64 n)) ∧ KpW wk.heap.size p1 p2 p3 W (W'.setCell ⟨g11, 0, none⟩ (.int .i64 n)) ∧ LI ws w8 wk g11 (xs ++ [x]) (W'.setCell ⟨g11, 0, none⟩ (.int .i64 n)) := by
  obtain ⟨h1, h2, h3, h4⟩ := h
  have hs := h4.size
  have far : ∀ k, k < W.heap.size → k ≠ g11 → (W'.setCell ⟨g11, 0, none⟩ (.int .i64 n)).heap[k]? = W.heap[k]? := fun k hk hne => (Below.heap_setCell W' ⟨g11, 0, none⟩ _ k hne).trans (hb.block k hk)
  refine ⟨(keeps_below hb B).trans ((KeepsOthers.setCell _ _ _).from _), ⟨(hb.mono hs).setCell (p := ⟨g11, 0, none⟩) hg _, far _ (by omega) (by omega), far _ (by omega) (by omega), far _ (by omega) (by omega)⟩, hx, ?_, h3.trans (by rw [World.size_setCell]; exact hb.size) (fun k hk hne => far k (Nat.lt_of_lt_of_le hk h3.1) hne), (h4.trans (hb.mono hs)).setCell (p := ⟨g11, 0, none⟩) hg _⟩
  have e : (((xs ++ [x]).length : Nat) : Int) = n := by rw [List.length_append, List.length_singleton, hn]; rfl
  rw [e]
  exact blk_put (blk_below h2 hb) 0 _ rfl
theorem out_cell {n : Nat} {P : Program} {fn : Func} {tmps : Array Value} {t : Tmp} {ty : TypeId} (hres : fn.results = #[.cell t ty]) (hrun : ∀ (g : Nat) (b : Bool) (W : World), tmps[t]? = some (.pointer (some ⟨g, 0, none⟩)) → W.heap[g]? = some (.cells #[.bool b] 4 (0, 0)) → (results fn tmps).run P W = .ok (.bool b) W) (g : Nat) (ht : tmps[t]? = some (.pointer (some ⟨g, 0, none⟩))) (b : Bool) (w : World) (ds : List Nat) (W : World)
    (hd : ∀ D ∈ ds, w.heap.size ≤ D ∧ W.heap[D]? = some (.deferred (some []))) (hn : ds.Nodup) (hb : W.heap[g]? = some (.cells #[.bool b] 4 (0, 0))) (hB : Below w.heap.size w W) :
    LeavesInM Fence.wide n P fn tmps (fun e w' => e = .returned (.bool b) ∧ Below w.heap.size w w') (ds.map F.mark) .returning W :=
  out_marks w (fun W => W.heap[g]? = some (.cells #[.bool b] 4 (0, 0)) ∧ Below w.heap.size w W) (fun W D h h1 h2 => ⟨(World.putObj_heap_other (fun e => by rw [e, h2] at h; cases h.1)).trans h.1, h.2.grown (grownBy_putObj' W D _) h.2.size (fun k e => by cases e; exact h1)⟩)
    (fun W h => ⟨_, hrun g b W ht h.1, rfl, h.2⟩) ds W hd hn ⟨hb, hB⟩
def later.T2 : Bool × List (List Nat × List Nat) := (true, [([], []), ([0], [0]), ([], []), ([], []), ([3], [3]), ([1, 2, 4, 4], [1, 2, 4]), ([], []), ([6, 5, 5, 0, 1, 2, 3, 4, 5, 6], [5, 6])])
def later.B2 : List Nat := [0, 1, 0, 0, 8, 31, 0, 127]
theorem later.tab2 : rtab .any (opsOf Try.f7 2) = later.T2 := by kernel_rfl
theorem later.bits2 : waitsOk later.T2.2 later.B2 = true := by kernel_rfl
set_option maxHeartbeats 8000000 in
set_option maxRecDepth 100000 in
theorem later_walk (t : ByteArray) (A1 : Option Addr) (c1 : Nat) (ps : List S61) (A2 : Option Addr) (c2 : Nat) (ns : List S47) (n bits : Int) (w : World)
    (hs : t.size ≤ 140737488351232) (hr1 : Kd.C k61 w A1 ps.length ps) (hc1 : ps.length ≤ c1) (hn1 : A1 = none → c1 = 0) (hB1 : ∀ x ∈ ps, B61 x) (hb1 : ps.length * 24 ≤ 140737488351232)
    (hr2 : Kd.C k47 w A2 ns.length ns) (hc2 : ns.length ≤ c2) (hn2 : A2 = none → c2 = 0) (hB2 : ∀ x ∈ ns, B47 x) (hb2 : ns.length * 32 ≤ 140737488351232)
    (hw1 : (Lit.int .i64 n).wf = true) (hw2 : (Lit.int .u64 bits).wf = true) :
    Calls Try.prog 7 #[.agg #[.string t, .slice A1 ps.length c1, .slice A2 ns.length c2], .int .i64 n, .int .u64 bits] w fun e w' => e = .returned (.bool true) ∧ Below w.heap.size w w' := by
  have hu3 := Try.underlying3
  have hu23 := Try.underlying23
  have hu25 := Try.underlying25
  have hu27 := Try.underlying27
  have hu33 := Try.underlying33
  have hu36 := Try.underlying36
  have hu38 := Try.underlying38
  have hu47 := Try.underlying47
  have hL5 : (fives ns ns.length).length = ns.length := fives_len ns ns.length
  obtain ⟨k1, hk1⟩ := (Q.RWalk_all (fives ns ns.length) (by rw [hL5]; omega) bits n).rounds
  obtain ⟨ws, hws⟩ : ∃ ws, walkOf (fives ns ns.length) (chB bits) n = ws := ⟨_, rfl⟩
  rw [hws] at hk1
  have HWS := Aside0.mk hws
  have HK1 := Aside0.mk hk1
  have HNL := Aside0.mk (show ns.length ≤ 4398046511104 by omega)
  have HL5 := Aside0.mk hL5
  have HR1 := Aside0.mk hr1
  have HR2 := Aside0.mk hr2
  have HC1 := Aside0.mk hc1
  have HC2 := Aside0.mk hc2
  have HN1 := Aside0.mk hn1
  have HN2 := Aside0.mk hn2
  have HB := Aside0.mk (Below.refl w.heap.size w)
  clear hs hr1 hr2 hc1 hc2 hn1 hn2 hB1 hB2 hw1 hw2 hk1 hws hL5
  refine (callsIn_wide (n := 9)).1 ?_
  refine callsIn_of_wp_marks Try.func7 rfl trivial ?_ rfl
  simp only [Try.ntmps7, List.size_toArray, List.length_cons, List.length_nil, Nat.reduceAdd, Nat.reduceSub, Array.replicate_succ, Array.replicate_zero, List.push_toArray, List.append_toArray, List.nil_append, List.cons_append]
  refine wpIn_wide.2 ?_
  go_wp2_with (first
    | ((with_reducible refine gate_dst (N := 3) rfl ?_); refine box_event ?hg3 (N := 3) ?hd3 (cs := #[.string t, .slice A1 ps.length c1, .slice A2 ns.length c2]) (t := 27) ?hr3 ?_; (case hd3 => rfl); (case hg3 => rfl); (case hr3 => first | (go_simp; done) | (go_simp; rfl)); intro g3 hg wg3 hbox hb; have BK3 := Aside0.mk hbox; have n0_ := Aside0.mk (below_step HB.out hb); clear HB; have HB := n0_; clear n0_; clear hbox hg hb; have hx0 : wg3.cell? ⟨g3, 0, none⟩ = some (.string t) := (blk_cell BK3.out 0).trans rfl; have hx1 : wg3.cell? ⟨g3, 1, none⟩ = some (.slice A1 ps.length c1) := (blk_cell BK3.out 1).trans rfl; have hx2 : wg3.cell? ⟨g3, 2, none⟩ = some (.slice A2 ns.length c2) := (blk_cell BK3.out 2).trans rfl)
    | ((with_reducible refine gate_dst (N := 6) rfl ?_); refine box_event ?hg6 (N := 6) ?hd6 (cs := #[.bool false]) (t := 4) ?hr6 ?_; (case hd6 => rfl); (case hg6 => rfl); (case hr6 => first | (go_simp; done) | (go_simp; rfl)); intro g6 hg wg6 hbox hb; have BK6 := Aside0.mk hbox; have GE6 := Aside0.mk (show w.heap.size ≤ g6 by rw [hg]; exact HB.out.size); have n0_ := Aside0.mk (below_step HB.out hb); have n1_ := Aside0.mk (blk_below BK3.out hb); clear HB BK3 hx0 hx1 hx2; have HB := n0_; have BK3 := n1_; clear n0_ n1_; clear hbox hg hb; have hx0 : wg6.cell? ⟨g3, 0, none⟩ = some (.string t) := (blk_cell BK3.out 0).trans rfl; have hx1 : wg6.cell? ⟨g3, 1, none⟩ = some (.slice A1 ps.length c1) := (blk_cell BK3.out 1).trans rfl; have hx2 : wg6.cell? ⟨g3, 2, none⟩ = some (.slice A2 ns.length c2) := (blk_cell BK3.out 2).trans rfl))
  refine (lent_own t A1 c1 ps A2 c2 ns _ (Kd.C_below HR1.out HB.out) HC1.out HN1.out hb1 (Kd.C_below HR2.out HB.out) HC2.out HN2.out hb2).mono ?_
  rintro e w2 ⟨A, gc, rfl, hL1, hL2, hb⟩
  have HRW := Aside0.mk (Kd.R_lower hL2 HB.out.size)
  have n1_ := Aside0.mk (blk_below BK6.out hb)
  have n2_ := Aside0.mk (below_step HB.out hb)
  clear BK3 BK6 HB hx0 hx1 hx2 hL1 hL2 hb
  have BK6 := n1_
  have HB := n2_
  clear n1_ n2_ HR1 HR2 HC1 HC2 HN1 HN2
  go_wp2_with (first
    | ((with_reducible refine gate_dst (N := 7) rfl ?_); refine box_event ?hg7 (N := 7) ?hd7 (cs := #[.string ⟨#[]⟩, .slice none 0 0, .slice none 0 0]) (t := 27) ?hr7 ?_; (case hd7 => rfl); (case hg7 => rfl); (case hr7 => first | (go_simp; done) | (go_simp; rfl)); intro g7 hg wg7 hbox hb; have BK7 := Aside0.mk hbox; have GE7 := Aside0.mk (show w.heap.size ≤ g7 by rw [hg]; exact HB.out.size); have GL := Aside0.mk (show w2.heap.size ≤ g7 by rw [hg]; exact Nat.le_refl _); have HB3 := Aside0.mk hb; clear hbox hg hb; have hy0 : wg7.cell? ⟨g7, 0, none⟩ = some (.string ⟨#[]⟩) := (blk_cell BK7.out 0).trans rfl; have hy1 : wg7.cell? ⟨g7, 1, none⟩ = some (.slice none 0 0) := (blk_cell BK7.out 1).trans rfl; have hy2 : wg7.cell? ⟨g7, 2, none⟩ = some (.slice none 0 0) := (blk_cell BK7.out 2).trans rfl; have hz0 := blk_frozen BK7.out 0; have hz1 := blk_frozen BK7.out 1; have hz2 := blk_frozen BK7.out 2))
  have hset : Below w2.heap.size w2 (((wg7.setCell ⟨g7, 0, none⟩ (.string t)).setCell ⟨g7, 1, none⟩ (.slice A ps.length (ps.length + 2))).setCell ⟨g7, 2, none⟩ (.slice (some ⟨gc, 0, none⟩) ns.length (ns.length + 2))) := by
    refine below_set ?_ GL.out
    refine below_set ?_ GL.out
    refine below_set ?_ GL.out
    exact HB3.out
  have hbk : (((wg7.setCell ⟨g7, 0, none⟩ (.string t)).setCell ⟨g7, 1, none⟩ (.slice A ps.length (ps.length + 2))).setCell ⟨g7, 2, none⟩ (.slice (some ⟨gc, 0, none⟩) ns.length (ns.length + 2))).heap[g7]? = some (.cells #[.string t, .slice A ps.length (ps.length + 2), .slice (some ⟨gc, 0, none⟩) ns.length (ns.length + 2)] 27 (0, 0)) := by
    refine blk_put (cs := #[.string t, .slice A ps.length (ps.length + 2), .slice none 0 0]) ?_ 2 _ rfl
    refine blk_put (cs := #[.string t, .slice none 0 0, .slice none 0 0]) ?_ 1 _ rfl
    refine blk_put (cs := #[.string ⟨#[]⟩, .slice none 0 0, .slice none 0 0]) ?_ 0 _ rfl
    exact BK7.out
  obtain ⟨w4, hw4⟩ : ∃ w4, w4 = (((wg7.setCell ⟨g7, 0, none⟩ (.string t)).setCell ⟨g7, 1, none⟩ (.slice A ps.length (ps.length + 2))).setCell ⟨g7, 2, none⟩ (.slice (some ⟨gc, 0, none⟩) ns.length (ns.length + 2))) := ⟨_, rfl⟩
  rw [← hw4] at hset hbk ⊢
  have n0_ := Aside0.mk (below_step HB.out hset)
  have n1_ := Aside0.mk (blk_below BK6.out hset)
  have n2_ := Aside0.mk hbk
  have n3_ := Aside0.mk (Kd.R_below HRW.out hset)
  clear hw4 hset hbk hy0 hy1 hy2 hz0 hz1 hz2 HB BK6 BK7 HRW HB3 GL wg7
  have HB := n0_
  have BK6 := n1_
  have BK7 := n2_
  have HRW := n3_
  clear n0_ n1_ n2_ n3_
  refine start_n (n := 8) (S := fun w' => Below w4.heap.size w4 w') (ds := []) #[false, false, false, false, false, false, false, false] (by kernel_rfl) rfl rfl (below_drew (Below.refl _ _)) (fun hHeld => ?_)
  refine with_tabW later.tab2 later.bits2 (fun HT_ HW_ => ?_)
  generalize w4.drew = wg at hHeld ⊢
  refine pure_ (i := 0) (N := some 17) (v := ?_) (a' := ?_) #[true, false, false, false, false, false, false, false] rfl rfl (any_of HT_.out (by kernel_rfl)) (fun _ _ _ h => h) (Or.inl ⟨by rfl, ?_⟩) ?_ ?_
  rotate_left
  · intro w'
    go_simp
    with_reducible rfl
  rotate_left
  · simp only [Act.put, List.setIfInBounds_toArray, List.set_cons_zero, List.set_cons_succ, i64_w, i32_w]
    rfl
  refine pure_ (i := 2) (N := some 19) (v := ?_) (a' := ?_) #[true, false, true, false, false, false, false, false] rfl rfl (any_of HT_.out (by kernel_rfl)) (fun _ _ _ h => h) (Or.inl ⟨by rfl, ?_⟩) ?_ ?_
  rotate_left
  · intro w'
    go_simp
    with_reducible rfl
  rotate_left
  · simp only [Act.put, List.setIfInBounds_toArray, List.set_cons_zero, List.set_cons_succ, i64_w, i32_w]
    rfl
  refine pure_ (i := 3) (N := some 20) (v := ?_) (a' := ?_) #[true, false, true, true, false, false, false, false] rfl rfl (any_of HT_.out (by kernel_rfl)) (fun _ _ _ h => h) (Or.inl ⟨by rfl, ?_⟩) ?_ ?_
  rotate_left
  · intro w'
    go_simp
    with_reducible rfl
  rotate_left
  · simp only [Act.put, List.setIfInBounds_toArray, List.set_cons_zero, List.set_cons_succ, i64_w, i32_w]
    rfl
  refine take_ (i := 1) (N := some 18) (v := ?_) (a' := ?_) #[true, true, true, true, false, false, false, false] rfl rfl (take_ofW HT_.out HW_.out (by kernel_rfl)) (fun _ _ _ h => h) (Or.inl ⟨by rfl, ?_⟩) hHeld ?_ ?_
  rotate_left
  · intro w' hS
    have y2 : w'.cell? ⟨g7, 2, none⟩ = some (.slice (some ⟨gc, 0, none⟩) ns.length (ns.length + 2)) := (blk_cell (blk_below BK7.out hS) 2).trans rfl
    clear hS
    go_simp
    with_reducible rfl
  rotate_left
  · simp only [Act.put, List.setIfInBounds_toArray, List.set_cons_zero, List.set_cons_succ, i64_w, i32_w]
    rfl
  refine join_ (σ := Nat × Nat × Nat × Nat × Nat) 1 #[true, true, true, true, true, true, true, false] (fun s_ => [(21, .func (.func 52) #[] #[.pointer (some ⟨s_.2.1, 0, none⟩)]), (22, .func (.func 50) #[] #[.pointer (some ⟨s_.2.2.1, 0, none⟩), .pointer (some ⟨s_.2.2.2.1, 0, none⟩), .pointer (some ⟨s_.2.2.2.2, 0, none⟩)]), (8, .pointer (some ⟨s_.1, 0, none⟩))]) (fun s_ w' => Below w4.heap.size w4 w' ∧ w'.heap[s_.1]? = some (.cells #[Value.nilFunc] 38 (0, 0)) ∧ w4.heap.size ≤ s_.1 ∧ w'.heap[s_.2.1]? = some (.cells #[.int .u64 bits] 36 (0, 0)) ∧ w'.heap[s_.2.2.1]? = some (.cells #[.slice (some ⟨gc, 0, none⟩) ns.length (ns.length + 2)] 25 (0, 0)) ∧ w'.heap[s_.2.2.2.1]? = some (.cells #[.int .i64 n] 3 (0, 0)) ∧ w'.heap[s_.2.2.2.2]? = some (.cells #[.func (.func 52) #[] #[.pointer (some ⟨s_.2.1, 0, none⟩)]] 40 (0, 0)) ∧ s_.2.1 ≠ s_.1 ∧ s_.2.2.1 ≠ s_.1 ∧ s_.2.2.2.1 ≠ s_.1 ∧ s_.2.2.2.2 ≠ s_.1) ?_ ?_
  rotate_left
  · intro hCont
    refine two_ (i := 4) (j := 6) (Ni := some 21) (Nj := some 8) #[true, true, true, true, true, false, false, false] #[true, true, true, true, false, false, true, false] rfl rfl rfl rfl (two_of HT_.out (by kernel_rfl)) (by decide) (by decide) (fun K hK => ?_) (fun K hK => ?_)
    · skip
      refine goes_ Try.func26 (by kernel_rfl) rfl #[.int .u64 bits] (by rfl) rfl rfl (by (try simp only [List.map_toArray, List.map_cons, List.map_nil]); first | done | rfl) ?_
      refine (chosen.calls bits _).mono ?_
      rintro e wk ⟨bc, rfl, hbc, gbc, hb⟩
      refine ⟨_, rfl, ?_⟩
      have hH := below_step hHeld hb
      clear gbc
      clear hHeld hb
      refine hK.out _ _ hH (fun hHeld => ?_)
      clear hH
      clear hK K
      refine norm_ (a' := ?_) ?_ ?_
      rotate_left
      · show Act.put _ (some 21) _ = _
        simp only [Act.put, List.setIfInBounds_toArray, List.set_cons_zero, List.set_cons_succ, i64_w, i32_w]
        rfl
      refine two_ (i := 5) (j := 6) (Ni := some 22) (Nj := some 8) #[true, true, true, true, true, true, false, false] #[true, true, true, true, true, false, true, false] rfl rfl rfl rfl (two_of HT_.out (by kernel_rfl)) (by decide) (by decide) (fun K hK => ?_) (fun K hK => ?_)
      · skip
        refine goes_ Try.func25 (by kernel_rfl) rfl #[.agg #[.slice (some ⟨gc, 0, none⟩) ns.length (ns.length + 2)], .int .i64 n, .func (.func 52) #[] #[.pointer (some ⟨bc, 0, none⟩)]] (by rfl) rfl rfl (by (try simp only [List.map_toArray, List.map_cons, List.map_nil]); first | done | rfl) ?_
        refine (walk.calls (some ⟨gc, 0, none⟩) ns.length (ns.length + 2) n _ (.inr ⟨52, _, rfl⟩) _).mono ?_
        rintro e wk ⟨p1, p2, p3, rfl, hp1, hp2, hp3, gp1, gp2, gp3, hb⟩
        refine ⟨_, rfl, ?_⟩
        have hH := below_step hHeld hb
        clear gp1 gp2 gp3
        have n_hbc := blk_below hbc hb
        clear hbc
        have hbc := n_hbc
        clear n_hbc
        clear hHeld hb
        refine hK.out _ _ hH (fun hHeld => ?_)
        clear hH
        clear hK K
        refine norm_ (a' := ?_) ?_ ?_
        rotate_left
        · show Act.put _ (some 22) _ = _
          simp only [Act.put, List.setIfInBounds_toArray, List.set_cons_zero, List.set_cons_succ, i64_w, i32_w]
          rfl
        refine one_ (i := 6) (N := some 8) #[true, true, true, true, true, true, true, false] rfl rfl (one_of HT_.out (by kernel_rfl)) (by decide) (fun K hK => ?_)
        refine box_step ?hg (N := 8) ?hd (cs := #[Value.nilFunc]) (t := 38) ?hr ?_; (case hd => rfl); (case hg => rfl); (case hr => first | (go_simp; done) | (go_simp; rfl))
        intro g8 hg wk hbox hb
        have hge : w4.heap.size ≤ g8 := by rw [hg]; exact hHeld.size
        have ne_bc : bc ≠ g8 := by rw [hg]; exact Nat.ne_of_lt (blk_lt hbc)
        have ne_p1 : p1 ≠ g8 := by rw [hg]; exact Nat.ne_of_lt (blk_lt hp1)
        have ne_p2 : p2 ≠ g8 := by rw [hg]; exact Nat.ne_of_lt (blk_lt hp2)
        have ne_p3 : p3 ≠ g8 := by rw [hg]; exact Nat.ne_of_lt (blk_lt hp3)
        have hH := below_step hHeld hb
        have n_hbc := blk_below hbc hb
        clear hbc
        have hbc := n_hbc
        clear n_hbc
        have n_hp1 := blk_below hp1 hb
        clear hp1
        have hp1 := n_hp1
        clear n_hp1
        have n_hp2 := blk_below hp2 hb
        clear hp2
        have hp2 := n_hp2
        clear n_hp2
        have n_hp3 := blk_below hp3 hb
        clear hp3
        have hp3 := n_hp3
        clear n_hp3
        have h8 := hbox
        clear hHeld hb hbox hg
        refine hK.out _ _ hH (fun hHeld => ?_)
        clear hH
        clear hK K
        refine norm_ (a' := ?_) ?_ ?_
        rotate_left
        · show Act.put _ (some 8) _ = _
          simp only [Act.put, List.setIfInBounds_toArray, List.set_cons_zero, List.set_cons_succ, i64_w, i32_w]
          rfl
        exact norm_ (by simp only [putAll, Act.put, List.setIfInBounds_toArray, List.set_cons_zero, List.set_cons_succ]) (hCont (g8, bc, p1, p2, p3) _ ⟨hHeld, h8, hge, hbc, hp1, hp2, hp3, ne_bc, ne_p1, ne_p2, ne_p3⟩)
      · skip
        refine box_step ?hg (N := 8) ?hd (cs := #[Value.nilFunc]) (t := 38) ?hr ?_; (case hd => rfl); (case hg => rfl); (case hr => first | (go_simp; done) | (go_simp; rfl))
        intro g8 hg wk hbox hb
        have hge : w4.heap.size ≤ g8 := by rw [hg]; exact hHeld.size
        have ne_bc : bc ≠ g8 := by rw [hg]; exact Nat.ne_of_lt (blk_lt hbc)
        have hH := below_step hHeld hb
        have n_hbc := blk_below hbc hb
        clear hbc
        have hbc := n_hbc
        clear n_hbc
        have h8 := hbox
        clear hHeld hb hbox hg
        refine hK.out _ _ hH (fun hHeld => ?_)
        clear hH
        clear hK K
        refine norm_ (a' := ?_) ?_ ?_
        rotate_left
        · show Act.put _ (some 8) _ = _
          simp only [Act.put, List.setIfInBounds_toArray, List.set_cons_zero, List.set_cons_succ, i64_w, i32_w]
          rfl
        refine one_ (i := 5) (N := some 22) #[true, true, true, true, true, true, true, false] rfl rfl (one_of HT_.out (by kernel_rfl)) (by decide) (fun K hK => ?_)
        refine goes_ Try.func25 (by kernel_rfl) rfl #[.agg #[.slice (some ⟨gc, 0, none⟩) ns.length (ns.length + 2)], .int .i64 n, .func (.func 52) #[] #[.pointer (some ⟨bc, 0, none⟩)]] (by rfl) rfl rfl (by (try simp only [List.map_toArray, List.map_cons, List.map_nil]); first | done | rfl) ?_
        refine (walk.calls (some ⟨gc, 0, none⟩) ns.length (ns.length + 2) n _ (.inr ⟨52, _, rfl⟩) _).mono ?_
        rintro e wk ⟨p1, p2, p3, rfl, hp1, hp2, hp3, gp1, gp2, gp3, hb⟩
        refine ⟨_, rfl, ?_⟩
        have hH := below_step hHeld hb
        clear gp1 gp2 gp3
        have n_hbc := blk_below hbc hb
        clear hbc
        have hbc := n_hbc
        clear n_hbc
        have n_h8 := blk_below h8 hb
        clear h8
        have h8 := n_h8
        clear n_h8
        clear hHeld hb
        refine hK.out _ _ hH (fun hHeld => ?_)
        clear hH
        clear hK K
        refine norm_ (a' := ?_) ?_ ?_
        rotate_left
        · show Act.put _ (some 22) _ = _
          simp only [Act.put, List.setIfInBounds_toArray, List.set_cons_zero, List.set_cons_succ, i64_w, i32_w]
          rfl
        have ne_p1 : p1 ≠ g8 := fun e => by rw [e, h8] at hp1; cases hp1
        have ne_p2 : p2 ≠ g8 := fun e => by rw [e, h8] at hp2; cases hp2
        have ne_p3 : p3 ≠ g8 := fun e => by rw [e, h8] at hp3; cases hp3
        exact norm_ (by simp only [putAll, Act.put, List.setIfInBounds_toArray, List.set_cons_zero, List.set_cons_succ]) (hCont (g8, bc, p1, p2, p3) _ ⟨hHeld, h8, hge, hbc, hp1, hp2, hp3, ne_bc, ne_p1, ne_p2, ne_p3⟩)
    · skip
      refine box_step ?hg (N := 8) ?hd (cs := #[Value.nilFunc]) (t := 38) ?hr ?_; (case hd => rfl); (case hg => rfl); (case hr => first | (go_simp; done) | (go_simp; rfl))
      intro g8 hg wk hbox hb
      have hge : w4.heap.size ≤ g8 := by rw [hg]; exact hHeld.size
      have hH := below_step hHeld hb
      have h8 := hbox
      clear hHeld hb hbox hg
      refine hK.out _ _ hH (fun hHeld => ?_)
      clear hH
      clear hK K
      refine norm_ (a' := ?_) ?_ ?_
      rotate_left
      · show Act.put _ (some 8) _ = _
        simp only [Act.put, List.setIfInBounds_toArray, List.set_cons_zero, List.set_cons_succ, i64_w, i32_w]
        rfl
      refine one_ (i := 4) (N := some 21) #[true, true, true, true, true, false, true, false] rfl rfl (one_of HT_.out (by kernel_rfl)) (by decide) (fun K hK => ?_)
      refine goes_ Try.func26 (by kernel_rfl) rfl #[.int .u64 bits] (by rfl) rfl rfl (by (try simp only [List.map_toArray, List.map_cons, List.map_nil]); first | done | rfl) ?_
      refine (chosen.calls bits _).mono ?_
      rintro e wk ⟨bc, rfl, hbc, gbc, hb⟩
      refine ⟨_, rfl, ?_⟩
      have hH := below_step hHeld hb
      clear gbc
      have n_h8 := blk_below h8 hb
      clear h8
      have h8 := n_h8
      clear n_h8
      clear hHeld hb
      refine hK.out _ _ hH (fun hHeld => ?_)
      clear hH
      clear hK K
      refine norm_ (a' := ?_) ?_ ?_
      rotate_left
      · show Act.put _ (some 21) _ = _
        simp only [Act.put, List.setIfInBounds_toArray, List.set_cons_zero, List.set_cons_succ, i64_w, i32_w]
        rfl
      refine one_ (i := 5) (N := some 22) #[true, true, true, true, true, true, true, false] rfl rfl (one_of HT_.out (by kernel_rfl)) (by decide) (fun K hK => ?_)
      refine goes_ Try.func25 (by kernel_rfl) rfl #[.agg #[.slice (some ⟨gc, 0, none⟩) ns.length (ns.length + 2)], .int .i64 n, .func (.func 52) #[] #[.pointer (some ⟨bc, 0, none⟩)]] (by rfl) rfl rfl (by (try simp only [List.map_toArray, List.map_cons, List.map_nil]); first | done | rfl) ?_
      refine (walk.calls (some ⟨gc, 0, none⟩) ns.length (ns.length + 2) n _ (.inr ⟨52, _, rfl⟩) _).mono ?_
      rintro e wk ⟨p1, p2, p3, rfl, hp1, hp2, hp3, gp1, gp2, gp3, hb⟩
      refine ⟨_, rfl, ?_⟩
      have hH := below_step hHeld hb
      clear gp1 gp2 gp3
      have n_hbc := blk_below hbc hb
      clear hbc
      have hbc := n_hbc
      clear n_hbc
      have n_h8 := blk_below h8 hb
      clear h8
      have h8 := n_h8
      clear n_h8
      clear hHeld hb
      refine hK.out _ _ hH (fun hHeld => ?_)
      clear hH
      clear hK K
      refine norm_ (a' := ?_) ?_ ?_
      rotate_left
      · show Act.put _ (some 22) _ = _
        simp only [Act.put, List.setIfInBounds_toArray, List.set_cons_zero, List.set_cons_succ, i64_w, i32_w]
        rfl
      have ne_bc : bc ≠ g8 := fun e => by rw [e, h8] at hbc; cases hbc
      have ne_p1 : p1 ≠ g8 := fun e => by rw [e, h8] at hp1; cases hp1
      have ne_p2 : p2 ≠ g8 := fun e => by rw [e, h8] at hp2; cases hp2
      have ne_p3 : p3 ≠ g8 := fun e => by rw [e, h8] at hp3; cases hp3
      exact norm_ (by simp only [putAll, Act.put, List.setIfInBounds_toArray, List.set_cons_zero, List.set_cons_succ]) (hCont (g8, bc, p1, p2, p3) _ ⟨hHeld, h8, hge, hbc, hp1, hp2, hp3, ne_bc, ne_p1, ne_p2, ne_p3⟩)
  rintro ⟨g8, bc, p1, p2, p3⟩ wj ⟨hHeld, h8, hge, hbc, hp1, hp2, hp3, ne_bc, ne_p1, ne_p2, ne_p3⟩
  simp only at h8 hge hbc hp1 hp2 hp3 ne_bc ne_p1 ne_p2 ne_p3 ⊢
  refine norm_ (a' := ?_) ?_ ?_
  rotate_left
  · simp only [putAll, Act.put, List.setIfInBounds_toArray, List.set_cons_zero, List.set_cons_succ]
    rfl
  refine one_ (i := 7) (N := none) #[true, true, true, true, true, true, true, true] rfl rfl (one_of HT_.out (by kernel_rfl)) (by decide) (fun K hK => ?_)
  have hs0 : wj.cell? ⟨g8, 0, none⟩ = some Value.nilFunc := (blk_cell h8 0).trans rfl
  have hf0 := blk_frozen h8 0
  have hH : Below w4.heap.size w4 (wj.setCell ⟨g8, 0, none⟩ (.func (.func 50) #[] #[.pointer (some ⟨p1, 0, none⟩), .pointer (some ⟨p2, 0, none⟩), .pointer (some ⟨p3, 0, none⟩)])) := below_set hHeld hge
  have far : ∀ k, k ≠ g8 → (wj.setCell ⟨g8, 0, none⟩ (.func (.func 50) #[] #[.pointer (some ⟨p1, 0, none⟩), .pointer (some ⟨p2, 0, none⟩), .pointer (some ⟨p3, 0, none⟩)])).heap[k]? = wj.heap[k]? := fun k hk => Below.heap_setCell wj ⟨g8, 0, none⟩ _ k hk
  have hb8 : (wj.setCell ⟨g8, 0, none⟩ (.func (.func 50) #[] #[.pointer (some ⟨p1, 0, none⟩), .pointer (some ⟨p2, 0, none⟩), .pointer (some ⟨p3, 0, none⟩)])).heap[g8]? = some (.cells #[.func (.func 50) #[] #[.pointer (some ⟨p1, 0, none⟩), .pointer (some ⟨p2, 0, none⟩), .pointer (some ⟨p3, 0, none⟩)]] 38 (0, 0)) := blk_put h8 0 _ rfl
  have LT := Aside0.mk (show Lat t A ps.length gc ns.length n bits g6 g7 g8 bc p1 p2 p3 (wj.setCell ⟨g8, 0, none⟩ (.func (.func 50) #[] #[.pointer (some ⟨p1, 0, none⟩), .pointer (some ⟨p2, 0, none⟩), .pointer (some ⟨p3, 0, none⟩)])) from ⟨(far g6 (Nat.ne_of_lt (Nat.lt_of_lt_of_le (blk_lt BK6.out) hge))).trans (blk_below BK6.out hHeld), (far g7 (Nat.ne_of_lt (Nat.lt_of_lt_of_le (blk_lt BK7.out) hge))).trans (blk_below BK7.out hHeld), hb8, (far bc ne_bc).trans hbc, (far p1 ne_p1).trans hp1, (far p2 ne_p2).trans hp2, (far p3 ne_p3).trans hp3⟩)
  refine skip_ (w1 := ?_) (by rfl) rfl ?_ ?_
  rotate_left
  · go_simp
    rfl
  refine hK.out _ _ hH (fun hHeld => ?_)
  clear hK K hs0 hf0 hH far hb8 h8 hge hbc hp1 hp2 hp3 ne_bc ne_p1 ne_p2 ne_p3
  refine done_ (done_of HT_.out (by kernel_rfl)) ?_
  generalize wj.setCell ⟨g8, 0, none⟩ (.func (.func 50) #[] #[.pointer (some ⟨p1, 0, none⟩), .pointer (some ⟨p2, 0, none⟩), .pointer (some ⟨p3, 0, none⟩)]) = w5 at hHeld LT ⊢
  have n0_ := Aside0.mk (below_step HB.out hHeld)
  have n1_ := Aside0.mk (Kd.R_below HRW.out hHeld)
  clear HB HRW BK6 BK7 hHeld
  have HB := n0_
  have HRW := n1_
  clear n0_ n1_
  rw [onlyN_normal]
  have z8 : w5.cell? ⟨g8, 0, none⟩ = some (.func (.func 50) #[] #[.pointer (some ⟨p1, 0, none⟩), .pointer (some ⟨p2, 0, none⟩), .pointer (some ⟨p3, 0, none⟩)]) := (blk_cell LT.out.b8 0).trans rfl
  have z7 : w5.cell? ⟨g7, 2, none⟩ = some (.slice (some ⟨gc, 0, none⟩) ns.length (ns.length + 2)) := (blk_cell LT.out.b7 2).trans rfl
  have nn1 := fn38L w5 #[.pointer (some ⟨p1, 0, none⟩), .pointer (some ⟨p2, 0, none⟩), .pointer (some ⟨p3, 0, none⟩)]
  go_wp2_with (fail)
  clear z8 z7 nn1
  go_loopg [29] ns.length (fun gk v29 w' => ∃ x : Int, v29 = .int .i64 x ∧ Aside0 (0 ≤ x ∧ x ≤ (ns.length : Int) ∧ ((ns.length : Int) - x).toNat ≤ gk) ∧ Aside0 (Kd.R k47 47 w' w.heap.size (fun _ => True) (.slice (some ⟨gc, 0, none⟩) ns.length (ns.length + 2)) (fives ns x.toNat)) ∧ Aside0 (Lat t A ps.length gc ns.length n bits g6 g7 g8 bc p1 p2 p3 w') ∧ Aside0 (Below w.heap.size w w'))
  case atStart => exact ⟨0, rfl, ⟨⟨Int.le_refl _, by omega, by omega⟩⟩, ⟨by rw [show (0 : Int).toNat = 0 from rfl, fives_zero]; exact HRW.out⟩, LT, HB⟩
  case round =>
    clear HRW LT HB
    obtain ⟨x, rfl, HX, HRW, LT, HB⟩ := hrel
    have z7 : wr.cell? ⟨g7, 2, none⟩ = some (.slice (some ⟨gc, 0, none⟩) ns.length (ns.length + 2)) := (blk_cell LT.out.b7 2).trans rfl
    by_cases hx : x < (ns.length : Int)
    · have hx0 := HX.out.1
      have hxn : x.toNat < ns.length := by omega
      have hxe : ((x.toNat : Nat) : Int) = x := by omega
      have b1 : decide (x < (ns.length : Int)) = true := decide_eq_true hx
      have hw1 : wrap64 (x + 1) = x + 1 := by unfold wrap64; have := HNL.out; omega
      have he1 : (x + 1).toNat = x.toNat + 1 := by omega
      by_cases h5 : x.toNat % 5 = 3
      · have b3 : (x % 5 == 3) = true := by simp; omega
        have b2 : (Int.tmod x 5 == 3) = true := by rw [Int.tmod_eq_emod_of_nonneg hx0]; simp; omega
        have hC := (Kd.R_reads' HRW.out).2.2
        obtain ⟨ad, e1, y0, y1, y2, y3⟩ := at_T47 hC x hx0 (by rw [fives_len]; exact hx)
        obtain rfl : (⟨gc, 0, none⟩ : Addr) = ad := by injection e1
        obtain ⟨cells, hcells⟩ := Kd.R_typed HRW.out gc (by simp [Value.ownBlock])
        have f3 := blk_frozen hcells (x.toNat * 4 + 3)
        obtain ⟨⟨u3, y3'⟩, hnew⟩ := fives_store HRW.out hx0 hx h5
        have k1_ : (0 ≤ x) = True := eq_true hx0
        have k2_ : (x < (ns.length : Int)) = True := eq_true hx
        have HNW := Aside0.mk hnew
        have HLT := Aside0.mk (LT.out.set hcells (x.toNat * 4 + 3) (.int .i64 1))
        have HBL := Aside0.mk (below_set (j := x.toNat * 4 + 3) (v := .int .i64 1) HB.out (Kd.R_base HRW.out gc (by simp [Value.ownBlock])))
        have HXL := Aside0.mk hx
        clear hx0 hxn hxe h5 hx hC e1 hcells y0 y1 y2 y3 hnew HRW LT HB
        go_wp2
        go_roundg ((ns.length : Int) - (x + 1)).toNat
        case measure => have := HXL.out; have := HX.out; omega
        case rel => exact ⟨x + 1, by first | rfl | rw [hw1], ⟨⟨by have := HX.out; omega, by have := HXL.out; omega, by omega⟩⟩, HNW, HLT, HBL⟩
      · have b2 : (Int.tmod x 5 == 3) = false := by rw [Int.tmod_eq_emod_of_nonneg hx0]; simp; omega
        have b3 : (x % 5 == 3) = false := by simp; omega
        have HNW := Aside0.mk (show Kd.R k47 47 wr w.heap.size (fun _ => True) (.slice (some ⟨gc, 0, none⟩) ns.length (ns.length + 2)) (fives ns (x + 1).toNat) from by rw [he1, fives_miss h5]; exact HRW.out)
        have HXL := Aside0.mk hx
        clear hx0 hxn hxe h5 hx HRW
        go_wp2
        go_roundg ((ns.length : Int) - (x + 1)).toNat
        case measure => have := HXL.out; have := HX.out; omega
        case rel => exact ⟨x + 1, by first | rfl | rw [hw1], ⟨⟨by have := HX.out; omega, by have := HXL.out; omega, by omega⟩⟩, HNW, LT, HB⟩
    · have b1 : decide (x < (ns.length : Int)) = false := decide_eq_false hx
      obtain rfl : x = (ns.length : Int) := by have := HX.out; omega
      have HNW := Aside0.mk (show Kd.R k47 47 wr w.heap.size (fun _ => True) (.slice (some ⟨gc, 0, none⟩) ns.length (ns.length + 2)) (fives ns ns.length) from by have := HRW.out; rwa [Int.toNat_natCast] at this)
      clear hx HRW HX z7
      have hL5 := HL5.out
      generalize fives ns ns.length = mf at HWS HK1 HNW hL5
      have HM5 := Aside0.mk hL5
      clear HL5 hL5
      have z7 : wr.cell? ⟨g7, 2, none⟩ = some (.slice (some ⟨gc, 0, none⟩) ns.length (ns.length + 2)) := (blk_cell LT.out.b7 2).trans rfl
      go_wp2_with (fail)
      have hcall := monikerref4_Walk.calls k1 (some ⟨gc, 0, none⟩) (ns.length + 2) mf n bits (-1) ws wr (Kd.R_reads' HNW.out).2.2 (by have := HM5.out; omega) HK1.out
      rw [HM5.out] at hcall
      refine hcall.mono ?_
      clear hcall
      rintro e wk ⟨vy, rfl, hvy, hb⟩
      obtain ⟨Ay, cy, rfl, hcy, hCy⟩ := Kd.R_reads hvy
      have n0_ := Aside0.mk (below_step HB.out hb)
      have n1_ := Aside0.mk (LT.out.below hb)
      have n2_ := Aside0.mk (Kd.C_below (Kd.R_reads' HNW.out).2.2 hb)
      have HCY := Aside0.mk hCy
      have HCY0 := Aside0.mk hCy
      clear HB LT HNW hb z7 hvy hcy hCy HK1
      have HB := n0_
      have LT := n1_
      have HCM := n2_
      clear n0_ n1_ n2_
      go_upto_region 13 with (first
        | ((with_reducible refine gate_dst (N := 10) rfl ?_); refine box_event ?hg10 (N := 10) ?hd10 (cs := #[.slice none 0 0]) (t := 33) ?hr10 ?_; (case hd10 => rfl); (case hg10 => rfl); (case hr10 => first | (go_simp; done) | (go_simp; rfl)); intro g10 hg wg10 hbox hb; have hs0 : wg10.cell? ⟨g10, 0, none⟩ = some (.slice none 0 0) := (blk_cell hbox 0).trans rfl; have hf0 := blk_frozen hbox 0; have HB10 := Aside0.mk hb; have BK10 := Aside0.mk hbox; have GE10 := Aside0.mk (show wk.heap.size ≤ g10 by rw [hg]; exact Nat.le_refl _); have NE610 := Aside0.mk (show g6 ≠ g10 by rw [hg]; exact Nat.ne_of_lt (blk_lt LT.out.b6)); clear hb hbox hg)
        | ((with_reducible refine gate_dst (N := 11) rfl ?_); refine box_event ?hg11 (N := 11) ?hd11 (cs := #[.int .i64 0]) (t := 3) ?hr11 ?_; (case hd11 => rfl); (case hg11 => rfl); (case hr11 => first | (go_simp; done) | (go_simp; rfl)); intro g11 hg wg11 hbox hb; clear hs0 hf0; have hs0 : wg11.cell? ⟨g11, 0, none⟩ = some (.int .i64 0) := (blk_cell hbox 0).trans rfl; have hf0 := blk_frozen hbox 0; have hA : Below wk.heap.size wk (wg10.setCell ⟨g10, 0, none⟩ (.slice Ay ws.length cy)) := below_set HB10.out GE10.out; have b10 : (wg10.setCell ⟨g10, 0, none⟩ (.slice Ay ws.length cy)).heap[g10]? = some (.cells #[.slice Ay ws.length cy] 33 (0, 0)) := blk_put BK10.out 0 _ rfl; have GE11 := Aside0.mk (show wk.heap.size ≤ g11 by rw [hg]; exact hA.size); have NE10 := Aside0.mk (show g10 ≠ g11 by rw [hg]; exact Nat.ne_of_lt (blk_lt b10)); have NE1011 := Aside0.mk NE10.out; have NE611 := Aside0.mk (show g6 ≠ g11 by rw [hg]; exact Nat.ne_of_lt (Nat.lt_of_lt_of_le (blk_lt LT.out.b6) hA.size)); have NE811 := Aside0.mk (show g8 ≠ g11 by rw [hg]; exact Nat.ne_of_lt (Nat.lt_of_lt_of_le (blk_lt LT.out.b8) hA.size)); have BK11 := Aside0.mk hbox; have n10_ := Aside0.mk (blk_below b10 hb); have HB11 := Aside0.mk (below_step hA hb); clear BK10 HB10; have BK10 := n10_; clear n10_ hA b10 hb hbox hg))
      have hset : Below wk.heap.size wk (wg11.setCell ⟨g11, 0, none⟩ (.int .i64 0)) := below_set HB11.out GE11.out
      have hb11 : (wg11.setCell ⟨g11, 0, none⟩ (.int .i64 0)).heap[g11]? = some (.cells #[.int .i64 0] 3 (0, 0)) := blk_put BK11.out 0 _ rfl
      have hb10 : (wg11.setCell ⟨g11, 0, none⟩ (.int .i64 0)).heap[g10]? = some (.cells #[.slice Ay ws.length cy] 33 (0, 0)) := (Below.heap_setCell wg11 ⟨g11, 0, none⟩ _ g10 NE10.out).trans BK10.out
      generalize wg11.setCell ⟨g11, 0, none⟩ (.int .i64 0) = w8 at hset hb10 hb11 ⊢
      have HS8 := Aside0.mk hset
      have B10 := Aside0.mk hb10
      have B11 := Aside0.mk hb11
      have L8 := Aside0.mk (LT.out.below hset)
      have HCY8 := Aside0.mk (Kd.C_below HCY.out hset)
      have HP := Aside0.mk (show p1 < wk.heap.size ∧ p2 < wk.heap.size ∧ p3 < wk.heap.size from ⟨blk_lt LT.out.q1, blk_lt LT.out.q2, blk_lt LT.out.q3⟩)
      clear hset hb10 hb11 BK10 BK11 HB11 NE10 HCY hs0 hf0
      have z8 : w8.cell? ⟨g8, 0, none⟩ = some (.func (.func 50) #[] #[.pointer (some ⟨p1, 0, none⟩), .pointer (some ⟨p2, 0, none⟩), .pointer (some ⟨p3, 0, none⟩)]) := (blk_cell L8.out.b8 0).trans rfl
      go_wp2_with (fail)
      clear z8
      refine rf1H (gf := 50) (lb := #[.pointer (some ⟨p1, 0, none⟩), .pointer (some ⟨p2, 0, none⟩), .pointer (some ⟨p3, 0, none⟩)]) (p := 48) (s := 12) rfl (enters_of Try.func50 (by kernel_rfl) rfl) (walk_stops 8 (by omega) p1 p2 p3 wk w8 (some ⟨gc, 0, none⟩) (ns.length + 2) mf n _ (chB bits) (by have := HM5.out; have := HNL.out; omega) HCM.out (by have := HM5.out; omega) (chosen_skip LT.out.bb) HS8.out (by rw [HM5.out]; exact L8.out.q1) L8.out.q2 L8.out.q3) KpW.trans (KpW_b HS8.out.size (Nat.lt_of_lt_of_le HP.out.1 HS8.out.size) (Nat.lt_of_lt_of_le HP.out.2.1 HS8.out.size) (Nat.lt_of_lt_of_le HP.out.2.2 HS8.out.size)) (fun W => ⟨Below.refl _ _, rfl, rfl, rfl⟩)
        (fun pre W => LI ws w8 wk g11 (valsN pre) W) (fun c pre W => c = .ret ∧ ¬ (valsN pre <+: ws)) (LI.own ws w8 wk g11 HS8.out.size _) (fun _ _ _ _ _ h _ _ => h)
        ⟨List.nil_prefix, B11.out, KeepB.refl _ _, HS8.out⟩ ?assign ?body ?done ?stop
      case assign =>
        intro lp x W K hK
        simp only [List.setIfInBounds_toArray, List.set_cons_zero, List.set_cons_succ] at hK ⊢
        gi_wp2
        exact hK
      case stop =>
        rintro D c pre W _ hsp ⟨_, h⟩ _
        rw [HWS.out] at hsp
        exact absurd hsp h
      case done =>
        rintro D zs W hD hzs hI hK
        rw [HWS.out] at hzs
        obtain ⟨h1, h2, h3, h4⟩ := hI
        rw [hzs] at h2
        have q11 : W.cell? ⟨g11, 0, none⟩ = some (.int .i64 (ws.length : Int)) := (blk_cell h2 0).trans rfl
        have q10 : W.cell? ⟨g10, 0, none⟩ = some (.slice Ay ws.length cy) := (blk_cell (h3.blk B10.out NE1011.out) 0).trans rfl
        have b6 := h3.blk L8.out.b6 NE611.out
        have q6 : W.cell? ⟨g6, 0, none⟩ = some (.bool false) := (blk_cell b6 0).trans rfl
        have f6 := blk_frozen b6 0
        have HK := Aside0.mk hK
        have H4 := Aside0.mk h4
        have B6 := Aside0.mk b6
        have HD := Aside0.mk hD
        clear h1 h2 h3 h4 b6 hK hzs hD
        go_wp2
        refine out_cell (t := 6) (ty := 4) rfl ?run g6 rfl true w [D] _ ?d (by simp) (blk_put B6.out 0 _ rfl) (below_set (below_step HB.out H4.out) GE6.out)
        case run =>
          intro g b W h hb
          have hge : g = g6 := (show g6 = g by simpa using h).symm
          subst hge
          have hc : W.cell? ⟨g, 0, none⟩ = some (.bool b) := (blk_cell hb 0).trans rfl
          have hres : Try.f7.results = #[.cell 6 4] := rfl
          unfold results
          rw [hres]
          simp only [Array.mapM_eq_mapM_toList, List.mapM_cons, List.mapM_nil] <;> simp [h] <;> go_simp
          all_goals (try rw [hc])
        case d =>
          intro D' hD'
          rcases List.mem_singleton.1 hD' with rfl
          have h1 := HB.out.size
          have h2 := HS8.out.size
          have h3 := HD.out
          exact ⟨by omega, (Below.heap_setCell _ ⟨g6, 0, none⟩ _ D' (fun e => by have e' : D' = g6 := e; have := HK.out; rw [e', B6.out] at this; cases this)).trans HK.out⟩
      case body =>
        rintro lp pre x W2 hlp ⟨r, hr⟩ hI hlt
        simp only [List.setIfInBounds_toArray, List.set_cons_zero, List.set_cons_succ]
        obtain ⟨j, hj⟩ : ∃ j : Int, ((valsN pre).length : Int) = j := ⟨_, rfl⟩
        have hBW := hI.2.2.2
        have LT2 := LT.out.below hBW
        have hCY : Kd.C (Kd.int .i64) W2 Ay ws.length ws := Kd.C_below HCY0.out hBW
        have h10 := hI.2.2.1.blk B10.out NE1011.out
        have q11 : W2.cell? ⟨g11, 0, none⟩ = some (.int .i64 j) := by rw [← hj]; exact (blk_cell hI.2.1 0).trans rfl
        have f11 := blk_frozen hI.2.1 0
        have q10 : W2.cell? ⟨g10, 0, none⟩ = some (.slice Ay ws.length cy) := (blk_cell h10 0).trans rfl
        have q6 : W2.cell? ⟨g6, 0, none⟩ = some (.bool false) := (blk_cell LT2.b6 0).trans rfl
        have f6 := blk_frozen LT2.b6 0
        have z8n : (W2.alloc (.cells #[.int .i64 0] 3)).cell? ⟨g8, 0, none⟩ = some (.func (.func 50) #[] #[.pointer (some ⟨p1, 0, none⟩), .pointer (some ⟨p2, 0, none⟩), .pointer (some ⟨p3, 0, none⟩)]) := (blk_cell (blk_alloc LT2.b8 (.cells #[.int .i64 0] 3)) 0).trans rfl
        have hj0 : 0 ≤ j := by omega
        have hjm : j ≤ 4398046511104 := by
          have h1 : (valsN pre).length = pre.length := by simp [valsN]
          have h2 := HNL.out
          have h3 := HM5.out
          omega
        have hsn : valsN (pre ++ [x]) = valsN pre ++ [x.1] := by simp [valsN]
        have HCW := Aside0.mk hCY
        by_cases hg : valsN pre ++ [x.1] <+: ws
        · obtain ⟨hlen, hrd⟩ := (pre_snoc hI.1).1 hg
          rw [hj] at hrd
          have hjl : j < (ws.length : Int) := by omega
          have b1 : decide ((ws.length : Int) ≤ j) = false := decide_eq_false (by omega)
          have b2 : decide (j < (ws.length : Int)) = true := decide_eq_true hjl
          have k1_ : (0 ≤ j) = True := eq_true hj0
          have k2_ : (j < (ws.length : Int)) = True := eq_true hjl
          have n1_ : (rd ws j != x.1) = false := by rw [hrd]; simp
          obtain ⟨adm, em, hxm⟩ := Kd.at_int hCY j hj0 hjl
          subst em
          have STEP := Aside0.mk (fun (W' : World) (hb : Below W2.heap.size W2 W') => LI.step (B := w8.heap.size) hI hb hg GE11.out HP.out HS8.out.size (j + 1) (by rw [hj]))
          have HSN := Aside0.mk hsn
          have HI := Aside0.mk hI
          have HJE := Aside0.mk hj
          have HJ := Aside0.mk (show 0 ≤ j ∧ j ≤ 4398046511104 from ⟨hj0, hjm⟩)
          have HLT := Aside0.mk LT2
          have H10 := Aside0.mk h10
          have hw1 : wrap64 (j + 1) = j + 1 := by unfold wrap64; omega
          by_cases hq : j = wrap64 ((ws.length : Int) / 2)
          · have e1 : (j == wrap64 ((ws.length : Int) / 2)) = true := by simpa using hq
            have HR := Aside0.mk hr
            clear hI hlen hrd hjl hj0 hjm hsn hj hCY LT2 h10 hr hq hBW hg
            gi_wp2
            have b13 : (W2.alloc (.cells #[.int .i64 0] 3)).heap[W2.heap.size]? = some (.cells #[.int .i64 0] 3 (0, 0)) := blk_new W2 _
            have hB3 : Below W2.heap.size W2 (W2.alloc (.cells #[.int .i64 0] 3)) := below_alloc (Below.refl _ _) _
            have hr3 : (W2.alloc (.cells #[.int .i64 0] 3)).heap[lp]? = some (.loop r) := (Below.heap_alloc W2 _ lp (Array.getElem?_eq_some_iff.1 HR.out).1).trans HR.out
            have GE13 := Aside0.mk (Nat.le_refl W2.heap.size)
            clear z8n q11 f11 q10 q6 f6 hxm n1_ e1
            generalize W2.alloc (.cells #[.int .i64 0] 3) = W3 at b13 hB3 hr3 ⊢
            generalize h13 : W2.heap.size = g13 at b13 ⊢
            have hge : W2.heap.size ≤ g13 := by omega
            clear h13 GE13
            have B13 := Aside0.mk b13
            have HB3 := Aside0.mk hB3
            have GE13 := Aside0.mk hge
            have HBW := Aside0.mk HI.out.2.2.2
            have HWK := Aside0.mk (show Below wk.heap.size wk W3 from HBW.out.trans (hB3.mono HBW.out.size))
            have L3 := Aside0.mk (HLT.out.below hB3)
            clear b13 hB3 hge
            refine rf1N (l₀ := lp) (r₀ := r) hr3 (gf := 50) (lb := #[.pointer (some ⟨p1, 0, none⟩), .pointer (some ⟨p2, 0, none⟩), .pointer (some ⟨p3, 0, none⟩)]) (p := 67) (s := 14) rfl (enters_of Try.func50 (by kernel_rfl) rfl) (walk_stops 6 (by omega) p1 p2 p3 wk W3 (some ⟨gc, 0, none⟩) (ns.length + 2) mf n _ (chB bits) (by have := HM5.out; have := HNL.out; omega) HCM.out (by have := HM5.out; omega) (chosen_skip LT.out.bb) HWK.out (by rw [HM5.out]; exact L3.out.q1) L3.out.q2 L3.out.q3) KpW.trans (KpW_b HWK.out.size (Nat.lt_of_lt_of_le HP.out.1 HWK.out.size) (Nat.lt_of_lt_of_le HP.out.2.1 HWK.out.size) (Nat.lt_of_lt_of_le HP.out.2.2 HWK.out.size)) (fun W => ⟨Below.refl _ _, rfl, rfl, rfl⟩)
              (fun pre' W' => valsN pre' <+: ws ∧ (W'.heap[g13]? = some (.cells #[.int .i64 ((valsN pre').length : Int)] 3 (0, 0)) ∧ Below W2.heap.size W2 W')) (fun c pre' W' => c = .ret ∧ ¬ (valsN pre' <+: ws))
              (OwnFrom.and (fun _ _ _ _ h _ _ => h) (OwnFrom.and (fun _ _ _ _ h hg hr => blk_own h hg (fun r e => (hr r e).2)) (ownFrom_below (Nat.le_refl _) HB3.out.size))) (fun _ _ _ _ _ h _ _ => h)
              ⟨List.nil_prefix, B13.out, HB3.out⟩ ?assign2 ?body2 ?done2 ?stop2
            case assign2 =>
              intro lp2 y W K hK
              simp only [List.setIfInBounds_toArray, List.set_cons_zero, List.set_cons_succ] at hK ⊢
              gi_wp2
              exact hK
            case stop2 =>
              rintro c pre' W hsp ⟨_, h⟩
              rw [HWS.out] at hsp
              exact absurd hsp h
            case done2 =>
              rintro zs W hzs ⟨h1, h2, h3⟩
              rw [HWS.out] at hzs
              rw [hzs] at h2
              have q13 : W.cell? ⟨g13, 0, none⟩ = some (.int .i64 (ws.length : Int)) := (blk_cell h2 0).trans rfl
              have q10 : W.cell? ⟨g10, 0, none⟩ = some (.slice (some adm) ws.length cy) := (blk_cell (blk_below H10.out h3) 0).trans rfl
              have q11 : W.cell? ⟨g11, 0, none⟩ = some (.int .i64 j) := by have h := (blk_cell (blk_below HI.out.2.1 h3) 0); rw [h]; simp; exact HJE.out
              have f11 := blk_frozen (blk_below HI.out.2.1 h3) 0
              have H3 := Aside0.mk h3
              clear h1 h2 h3 hzs
              gi_wp2
              obtain ⟨a_, b_, c_⟩ := STEP.out _ H3.out
              exact ⟨a_, b_, by show LI ws w8 wk g11 (valsN (pre ++ [x])) _; rw [HSN.out]; exact c_⟩
            case body2 =>
              rintro lp2 pre' y W ⟨h1, h2, h3⟩ hlt2
              simp only [List.setIfInBounds_toArray, List.set_cons_zero, List.set_cons_succ]
              obtain ⟨k, hk⟩ : ∃ k : Int, ((valsN pre').length : Int) = k := ⟨_, rfl⟩
              have q13 : W.cell? ⟨g13, 0, none⟩ = some (.int .i64 k) := by rw [← hk]; exact (blk_cell h2 0).trans rfl
              have f13 := blk_frozen h2 0
              have q10 : W.cell? ⟨g10, 0, none⟩ = some (.slice (some adm) ws.length cy) := (blk_cell (blk_below H10.out h3) 0).trans rfl
              have b6 := blk_below HLT.out.b6 h3
              have q6 : W.cell? ⟨g6, 0, none⟩ = some (.bool false) := (blk_cell b6 0).trans rfl
              have f6 := blk_frozen b6 0
              have hCY : Kd.C (Kd.int .i64) W (some adm) ws.length ws := Kd.C_below HCW.out h3
              have hk0 : 0 ≤ k := by omega
              have hkm : k ≤ 4398046511104 := by
                have h1 : (valsN pre').length = pre'.length := by simp [valsN]
                have h2 := HNL.out
                have h3 := HM5.out
                omega
              have hsn : valsN (pre' ++ [y]) = valsN pre' ++ [y.1] := by simp [valsN]
              by_cases hg : valsN pre' ++ [y.1] <+: ws
              · obtain ⟨hlen, hrd⟩ := (pre_snoc h1).1 hg
                rw [hk] at hrd
                have hkl : k < (ws.length : Int) := by omega
                have b3 : decide ((ws.length : Int) ≤ k) = false := decide_eq_false (by omega)
                have k3_ : (0 ≤ k) = True := eq_true hk0
                have k4_ : (k < (ws.length : Int)) = True := eq_true hkl
                have n2_ : (rd ws k != y.1) = false := by rw [hrd]; simp
                obtain ⟨adk, ek, hxk⟩ := Kd.at_int hCY k hk0 hkl
                have ek' : adm = adk := by injection ek
                subst ek'
                have hw2 : wrap64 (k + 1) = k + 1 := by unfold wrap64; omega
                have hel : (((valsN pre' ++ [y.1]).length : Nat) : Int) = k + 1 := by rw [List.length_append, List.length_singleton, ← hk]; rfl
                have H2 := Aside0.mk h2
                have H3 := Aside0.mk h3
                have HG := Aside0.mk hg
                have HEL := Aside0.mk hel
                have HS2 := Aside0.mk hsn
                clear h1 h2 h3 hlen hrd hkl hk0 hkm hk hsn hg hel b6 hCY ek
                gi_wp2
                have hWK := HBW.out.size
                have hge := GE13.out
                refine ⟨(KeepsOthers.setCell _ _ _).from _, ⟨(Below.refl _ W).setCell (p := ⟨g13, 0, none⟩) (by show wk.heap.size ≤ g13; omega) _, Below.heap_setCell W ⟨g13, 0, none⟩ _ p1 (by have := HP.out; show p1 ≠ g13; omega), Below.heap_setCell W ⟨g13, 0, none⟩ _ p2 (by have := HP.out; show p2 ≠ g13; omega), Below.heap_setCell W ⟨g13, 0, none⟩ _ p3 (by have := HP.out; show p3 ≠ g13; omega)⟩, ?_, ?_, H3.out.setCell (p := ⟨g13, 0, none⟩) hge _⟩
                · rw [HS2.out]; exact HG.out
                · rw [HS2.out, HEL.out]; exact blk_put H2.out 0 _ rfl
              · have H3 := Aside0.mk h3
                have HG := Aside0.mk (show ¬ (valsN (pre' ++ [y]) <+: ws) by rw [hsn]; exact hg)
                by_cases hkl : k < (ws.length : Int)
                · have b3 : decide ((ws.length : Int) ≤ k) = false := decide_eq_false (by omega)
                  have k3_ : (0 ≤ k) = True := eq_true hk0
                  have k4_ : (k < (ws.length : Int)) = True := eq_true hkl
                  have hne : rd ws k ≠ y.1 := fun e => hg ((pre_snoc h1).2 ⟨by omega, by rw [hk]; exact e⟩)
                  have n2_ : (rd ws k != y.1) = true := bne_iff_ne.2 hne
                  obtain ⟨adk, ek, hxk⟩ := Kd.at_int hCY k hk0 hkl
                  have ek' : adm = adk := by injection ek
                  subst ek'
                  clear h1 h2 h3 hkl hk0 hkm hk hsn hg hne b6 hCY ek
                  gi_wp2
                  exact ⟨(KeepsOthers.setCell _ _ _).from _, rfl, HG.out⟩
                · have b3 : decide ((ws.length : Int) ≤ k) = true := decide_eq_true (by omega)
                  have k4_ : (k < (ws.length : Int)) = False := eq_false hkl
                  clear h1 h2 h3 hkl hk0 hkm hk hsn hg b6 hCY
                  gi_wp2
                  exact ⟨(KeepsOthers.setCell _ _ _).from _, rfl, HG.out⟩
          · have e1 : (j == wrap64 ((ws.length : Int) / 2)) = false := by simpa using hq
            clear hI hlen hrd hjl hj0 hjm hsn hj hCY LT2 h10 hr hq hBW hg z8n
            gi_wp2
            obtain ⟨a_, b_, c_⟩ := STEP.out _ (Below.refl _ _)
            exact ⟨a_, b_, by show LI ws w8 wk g11 (valsN (pre ++ [x])) _; rw [HSN.out]; exact c_⟩
        · have HG := Aside0.mk (show ¬ (valsN (pre ++ [x]) <+: ws) by rw [hsn]; exact hg)
          by_cases hjl : j < (ws.length : Int)
          · have b3 : decide ((ws.length : Int) ≤ j) = false := decide_eq_false (by omega)
            have k3_ : (0 ≤ j) = True := eq_true hj0
            have k4_ : (j < (ws.length : Int)) = True := eq_true hjl
            have hne : rd ws j ≠ x.1 := fun e => hg ((pre_snoc hI.1).2 ⟨by omega, by rw [hj]; exact e⟩)
            have n2_ : (rd ws j != x.1) = true := bne_iff_ne.2 hne
            obtain ⟨adk, ek, hxk⟩ := Kd.at_int hCY j hj0 hjl
            subst ek
            clear hI hjl hj0 hjm hj hsn hg hne hCY LT2 h10 hr hBW z8n
            gi_wp2
            exact ⟨(KeepsOthers.setCell _ _ _).from _, rfl, HG.out⟩
          · have b3 : decide ((ws.length : Int) ≤ j) = true := decide_eq_true (by omega)
            have k4_ : (j < (ws.length : Int)) = False := eq_false hjl
            clear hI hjl hj0 hjm hj hsn hg hCY LT2 h10 hr hBW z8n
            gi_wp2
            exact ⟨(KeepsOthers.setCell _ _ _).from _, rfl, HG.out⟩
end Go.Proofs.Ytodldpdnhcafpaa.L


namespace Go.Proofs.Ytodldpdnhcafpaa.treeLater
open Go.ChangeShapes Go.WideShapes Go.ChangeAt Go.RowKit Go.Proofs.Ytodldpdnhcafpaa
open Go.ChangeMaps (open_string shut_string)
set_option linter.unusedVariables false
theorem own : ownKnob Try.prog.godebug = none := by kernel_rfl
theorem laidOut : laidOutB Try.prog = true := by kernel_rfl
set_option maxRecDepth 100000 in
theorem lifted (os : Os) (started : os.Started) (H : Type) (enc : TypeId × Value → H) :
    ReturnsInHanded {} Try.checked os 7 .any (Rows.treeLaterSpec.pre6 enc Try.prog Try.f7 Rows.treeLaterRow.domain false) (Rows.treeLaterSpec.post enc Try.prog Try.f7 false true false false) := by
  refine returnsInHanded_of_change_sized (C := Try.checked) own started (by kernel_rfl) Try.func7
    (ChangeSpec.witness6 (enc := enc) (C := Try.checked) false ⟨#[], #[.agg #[.string ByteArray.empty, .slice none 0 0, .slice none 0 0], .int .i64 0, .int .u64 0], []⟩ 8 (by kernel_rfl) (by kernel_rfl) (by kernel_rfl) (by kernel_rfl)) ?_
  intro W base args ds gs before hval0 hW hcnd hsz0 _
  have hsz : (DataW.weightsEach Try.prog (Try.f7.params.toList ++ Rows.treeLaterSpec.plain.varTypes Try.prog) (ds ++ gs)).all (· ≤ reachBytes) = true := hsz0
  have hval : ∀ (j : Nat) t v, Try.f7.params[j]? = some t → args[j]? = some v → Value.okWide Try.prog W .any base t v := hval0
  have hW' := hW
  obtain ⟨p, q, hA0, hV, rfl, hfz, hnd⟩ := hW
  have hA : DataW.TrodAll enc Try.prog W 0 (fun _ => true) true Try.f7.params.toList args.toList ds p := hA0
  rw [Try.params7] at hA hval hsz
  obtain ⟨v0, vs0, d0, ds0, p0, q0, hargs, rfl, rfl, h0, r0⟩ := trodAll_cons hA
  obtain ⟨v1, vs1, d1, ds1, p1, q1, rfl, rfl, rfl, h1, r1⟩ := trodAll_cons r0
  obtain ⟨v2, vs2, d2, ds2, p2, q2, rfl, rfl, rfl, h2, r2⟩ := trodAll_cons r1
  obtain ⟨rfl, rfl, rfl⟩ := trodAll_nil r2
  obtain rfl : args = #[v0, v1, v2] := by cases args; simp_all
  obtain ⟨rfl, rfl⟩ := trodVars_none hV
  have k0 := h0
  have lt0 : ∀ x ∈ p0, x.block < W.heap.size := by obtain ⟨m, hm⟩ := k0; exact DataW.trod_lt m _ _ _ hm
  have hq0 : ∀ n ∈ DataW.weights Try.prog 27 d0, n ≤ reachBytes := fun n hn => of_decide_eq_true (List.all_eq_true.1 hsz n (DataW.weights_mem_each (j := 0) rfl rfl n hn))
  obtain ⟨t0, A0, c0, l0, B0, e0, m0, rfl, hf0_0, hf0_1, hf0_2, hf0_3, hf0_4, hf0_5, hf0_6, hf0_7, hf0_8, hf0_9, hf0_10⟩ := Go.Proofs.Ytodldpdnhcafpaa.H.open27 (hval 0 27 v0 rfl rfl) h0 hq0
  obtain ⟨a1, rfl, rfl, rfl, w1⟩ := open_int Try.underlying3 (hval 1 3 v1 rfl rfl) h1
  obtain ⟨a2, rfl, rfl, rfl, w2⟩ := open_int Try.underlying36 (hval 2 36 v2 rfl rfl) h2
  clear hA0 hval0 hsz0 hsz
  refine (Go.Proofs.Ytodldpdnhcafpaa.L.later_walk t0 A0 c0 l0 B0 e0 m0 a1 a2 W hf0_0 hf0_1 hf0_2 hf0_3 hf0_4 hf0_5 hf0_6 hf0_7 hf0_8 hf0_9 hf0_10 w1 w2).mono fun e W' ⟨he, bel⟩ => ?_
  subst he
  exact ⟨_, rfl, _, _, _, [], _, [], hW', trodAll_mk1 (shut_bool Try.underlying4 _), (trodAll_cons_mk (Below.trod laidOut (by kernel_rfl) (of_decide_eq_true (by kernel_rfl)) k0 bel lt0) (trodAll_cons_mk (shut_int Try.underlying3 w1) (trodAll_cons_mk (shut_int Try.underlying36 w2) trodAll_mk0))), rfl, bel.frame _, fun h => by cases h⟩
theorem over : Rows.treeLaterRow.holds Try.pinned (OpenSpec.ofChange Rows.treeLaterSpec) :=
  OpenClaim.holds_of_wide 7 Try.f7 rfl rfl rfl rfl rfl rfl rfl ⟨rfl, rfl, rfl, rfl, rfl⟩ rfl rfl rfl rfl rfl (by kernel_rfl) Try.func7 (by kernel_rfl)
    (of_decide_eq_true (by kernel_rfl)) (by unfold Func.isWrapper; first | (rw [if_pos (by decide +kernel)]; kernel_rfl) | (rw [if_neg (by decide +kernel)]; exact ⟨rfl, rfl⟩))
    (fun os started H enc _ => lifted os started H enc)
theorem proved : Rows.TreeLaterSaid := over
#print axioms proved
end Go.Proofs.Ytodldpdnhcafpaa.treeLater
namespace Go.Proofs.Ytodldpdnhcafpaa
/-- The row, under a short name, for the claim. -/
theorem treeLater_holds : Rows.TreeLaterSaid := treeLater.proved
end Go.Proofs.Ytodldpdnhcafpaa
