/- Texts of the proof of one law (Walks), part 0: functions printed as Lean functions with their walks, and what is proved of them. Conditions: those of each theorem. -/
import Derived.Test.YtodldpdnhcafpaaProg
import Derived.Below
import Derived.Deep.Draws
import Derived.Deep.AppendLies
import Derived.Maps.AppendAt
import Derived.OwnWalk
import Derived.Laws.BytesArg
import Derived.Laws.MakeOwn
import Derived.Laws.OwnMore
import Derived.Deep.OwnRows
import Derived.Tactics
import Derived.Lib.ConvBytes
import Derived.Laws.Slices
import Derived.WalkKit
import Derived.KernelRfl
import Derived.RowKit3
import Derived.Deep.LoopGhost
import Derived.Deep.QuietTactic
import Derived.BigQuiet
import Derived.WideLaws
import Derived.Deep.DeepCutAuto
import Derived.Deep.CutBlock
import Derived.Deep.RegionHeld3
import Derived.Laws.Rows
import Derived.Lib.AppendStr
import Derived.ArgAppend
import Derived.Laws.IdiomCopy
import Derived.OrdersHeld
import Derived.Laws.BitsLemmas
import Derived.WalkMore
import Derived.RowKit
import Derived.Test.YtodldpdnhcafpaaWWords
import Derived.Test.YtodldpdnhcafpaaWLast
import Derived.Test.YtodldpdnhcafpaaWTab
import Derived.Test.YtodldpdnhcafpaaWFour
import Derived.Test.YtodldpdnhcafpaaWQPut
import Derived.Test.YtodldpdnhcafpaaWApart
import Derived.Test.YtodldpdnhcafpaaWArr
import Derived.Test.YtodldpdnhcafpaaWZeros
import Derived.Test.YtodldpdnhcafpaaWFoot
import Derived.Test.YtodldpdnhcafpaaWKept
import Derived.Test.YtodldpdnhcafpaaWShare
import Derived.Test.YtodldpdnhcafpaaWN
import Derived.Test.YtodldpdnhcafpaaWFootNe
import Derived.Test.YtodldpdnhcafpaaWAt
import Derived.Test.YtodldpdnhcafpaaWEqStruct
import Derived.Test.YtodldpdnhcafpaaWRepsOne
import Derived.Test.YtodldpdnhcafpaaWInv
import Derived.Test.YtodldpdnhcafpaaWInvWords
import Derived.Test.YtodldpdnhcafpaaWGuard
import Derived.Test.YtodldpdnhcafpaaWNEv
import Derived.Test.YtodldpdnhcafpaaWMore
import Derived.RangeFuncNested
import Derived.RangeFuncBound
import Derived.RangeFuncCalls
import Derived.RangeFuncLeaves
import Derived.RangeFuncBox
import Derived.Shelf.Abstract
import Derived.Shelf.RegionOpen
import Derived.OwnWalkIn
import Derived.TacticsInMore
import Derived.LoopNIn
import Derived.LoopIn
import Derived.OrdersIn
import Derived.StillTailTactics
import Derived.BigRegion
import Derived.SizedLaws
import Derived.ChangeSlices
import Derived.Deep.Slices
import Derived.ChangeArms
-- A text of this session's own program (wip/myprint.sh over a changed print tool): functions and their walks
namespace Go.Proofs.Ytodldpdnhcafpaa.F
open Go.RowKit Go.Proofs.YtodldpdnhcafpaaW.PrintWords Go.Proofs.YtodldpdnhcafpaaW.PrintLast Go.Proofs.YtodldpdnhcafpaaW.PrintMore
attribute [local go_sem] max2_int min2_int max_two min_two max_three min_three max_four min_four   -- for this text's walks alone
set_option linter.unusedVariables false
set_option linter.unusedSimpArgs false



def errW : Option Int → Value
  | none => .nilIface
  | some c => .iface 0 (.int .i64 c)
theorem errW_none : errW none = .nilIface := rfl
theorem errW_some (c : Int) : errW (some c) = .iface 0 (.int .i64 c) := rfl

theorem info3 : (Try.prog.info? 3).map (fun i => (i.zero, i.size, i.bytes)) = some (some (.int .i64 0), 1, 8) := by kernel_rfl
theorem info47 : (Try.prog.info? 47).map (fun i => (i.zero, i.size, i.bytes)) = some (some (.agg #[(.int .u8 0), (.int .i64 0), (.int .i64 0), (.int .i64 0)]), 4, 32) := by kernel_rfl
theorem info61 : (Try.prog.info? 61).map (fun i => (i.zero, i.size, i.bytes)) = some (some (.agg #[(.int .u8 0), (.int .i64 0), (.int .i64 0)]), 3, 24) := by kernel_rfl
-- the values' own types
/-! #### struct type 61 -/
structure S61 where
  f0 : Int
  f1 : Int
  f2 : Int
def z61 : S61 := ⟨(0 : Int), (0 : Int), (0 : Int)⟩
def k61 : Kd S61 := Kd.iso (Kd.pair (Kd.int .u8) (Kd.pair (Kd.int .i64) (Kd.int .i64))) (fun x : S61 => (x.f0, x.f1, x.f2))
theorem k61_open {w : World} {x : S61} {cs : List Value} (h : k61.K w x cs) : cs = [.int .u8 x.f0, .int .i64 x.f1, .int .i64 x.f2] := by
  obtain ⟨_, _, rfl, rfl, ⟨_, _, rfl, rfl, rfl⟩⟩ := h
  exact rfl
theorem k61_mk (w : World) (x : S61)  : k61.K w x [.int .u8 x.f0, .int .i64 x.f1, .int .i64 x.f2] := ⟨[.int .u8 x.f0], [.int .i64 x.f1, .int .i64 x.f2], rfl, rfl, ⟨[.int .i64 x.f1], [.int .i64 x.f2], rfl, rfl, rfl⟩⟩
def rd_T61 (xs : List S61) (i : Int) : S61 := xs.getD i.toNat z61
theorem at_T61 {w : World} {A : Option Addr} {n : Nat} {xs : List S61} (h : Kd.C k61 w A n xs) (i : Int) (h0 : 0 ≤ i) (h1 : i < n) : ∃ ad , A = some ad ∧ w.cell? (ad.add (i.toNat * 3)) = some (.int .u8 (rd_T61 xs i).f0) ∧ w.cell? ⟨(ad.add (i.toNat * 3)).block, (ad.add (i.toNat * 3)).off + 1, none⟩ = some (.int .i64 (rd_T61 xs i).f1) ∧ w.cell? ⟨(ad.add (i.toNat * 3)).block, (ad.add (i.toNat * 3)).off + 2, none⟩ = some (.int .i64 (rd_T61 xs i).f2) := by
  obtain ⟨ad, c, e, _, hK, hc0⟩ := Kd.C_get h z61 i h0 h1
  have hc : ∀ j u, c[j]? = some u → w.cell? (ad.add (i.toNat * 3 + j)) = some u := hc0
  obtain rfl := k61_open hK
  exact ⟨ad, e, hc 0 _ rfl, by rw [← add_field _ _ 1 (by omega)]; exact hc 1 _ rfl, by rw [← add_field _ _ 2 (by omega)]; exact hc 2 _ rfl⟩

/-! #### struct type 47 -/
structure S47 where
  f0 : Int
  f1 : Int
  f2 : Int
  f3 : Int
def z47 : S47 := ⟨(0 : Int), (0 : Int), (0 : Int), (0 : Int)⟩
def k47 : Kd S47 := Kd.iso (Kd.pair (Kd.int .u8) (Kd.pair (Kd.int .i64) (Kd.pair (Kd.int .i64) (Kd.int .i64)))) (fun x : S47 => (x.f0, x.f1, x.f2, x.f3))
theorem k47_open {w : World} {x : S47} {cs : List Value} (h : k47.K w x cs) : cs = [.int .u8 x.f0, .int .i64 x.f1, .int .i64 x.f2, .int .i64 x.f3] := by
  obtain ⟨_, _, rfl, rfl, ⟨_, _, rfl, rfl, ⟨_, _, rfl, rfl, rfl⟩⟩⟩ := h
  exact rfl
theorem k47_mk (w : World) (x : S47)  : k47.K w x [.int .u8 x.f0, .int .i64 x.f1, .int .i64 x.f2, .int .i64 x.f3] := ⟨[.int .u8 x.f0], [.int .i64 x.f1, .int .i64 x.f2, .int .i64 x.f3], rfl, rfl, ⟨[.int .i64 x.f1], [.int .i64 x.f2, .int .i64 x.f3], rfl, rfl, ⟨[.int .i64 x.f2], [.int .i64 x.f3], rfl, rfl, rfl⟩⟩⟩
def rd_T47 (xs : List S47) (i : Int) : S47 := xs.getD i.toNat z47
theorem at_T47 {w : World} {A : Option Addr} {n : Nat} {xs : List S47} (h : Kd.C k47 w A n xs) (i : Int) (h0 : 0 ≤ i) (h1 : i < n) : ∃ ad , A = some ad ∧ w.cell? (ad.add (i.toNat * 4)) = some (.int .u8 (rd_T47 xs i).f0) ∧ w.cell? ⟨(ad.add (i.toNat * 4)).block, (ad.add (i.toNat * 4)).off + 1, none⟩ = some (.int .i64 (rd_T47 xs i).f1) ∧ w.cell? ⟨(ad.add (i.toNat * 4)).block, (ad.add (i.toNat * 4)).off + 2, none⟩ = some (.int .i64 (rd_T47 xs i).f2) ∧ w.cell? ⟨(ad.add (i.toNat * 4)).block, (ad.add (i.toNat * 4)).off + 3, none⟩ = some (.int .i64 (rd_T47 xs i).f3) := by
  obtain ⟨ad, c, e, _, hK, hc0⟩ := Kd.C_get h z47 i h0 h1
  have hc : ∀ j u, c[j]? = some u → w.cell? (ad.add (i.toNat * 4 + j)) = some u := hc0
  obtain rfl := k47_open hK
  exact ⟨ad, e, hc 0 _ rfl, by rw [← add_field _ _ 1 (by omega)]; exact hc 1 _ rfl, by rw [← add_field _ _ 2 (by omega)]; exact hc 2 _ rfl, by rw [← add_field _ _ 3 (by omega)]; exact hc 3 _ rfl⟩

end Go.Proofs.Ytodldpdnhcafpaa.F

-- A text of this session's own program (wip/myprint.sh over a changed print tool): functions and their walks
namespace Go.Proofs.Ytodldpdnhcafpaa.F
open Go.RowKit Go.Proofs.YtodldpdnhcafpaaW.PrintWords Go.Proofs.YtodldpdnhcafpaaW.PrintLast Go.Proofs.YtodldpdnhcafpaaW.PrintMore
attribute [local go_sem] max2_int min2_int max_two min_two max_three min_three max_four min_four   -- for this text's walks alone
set_option linter.unusedVariables false
set_option linter.unusedSimpArgs false

/-! ### tree_sized: function 51 -/
def tree_sized.f (l0_0 : List (S47)) (a1 : Int) : Option (Bool) := if a1 ≥ 0 then (if a1 < (l0_0.length : Int) then (if 0 ≤ a1 then (if ((rd_T47 l0_0 a1).f3) ≥ 1 then (some (decide (((rd_T47 l0_0 a1).f3) ≤ (wrap64 ((l0_0.length : Int) - a1))))) else (some false)) else (none)) else (some false)) else (some false)
set_option maxHeartbeats 8000000 in
set_option maxRecDepth 100000 in
theorem tree_sized.calls (A0_0 : Option Addr) (c0_0 : Nat) (l0_0 : List (S47)) (a1 : Int) (r : Bool) (w : World) (hr0_0 : Kd.C k47 w A0_0 l0_0.length l0_0) (hc0_0 : l0_0.length ≤ c0_0) (h : tree_sized.f l0_0 a1 = some r) :
    Calls Try.prog 51 #[.agg #[.slice A0_0 l0_0.length c0_0], .int .i64 a1] w fun e w' => e = .returned (.bool r) ∧ Below w.heap.size w w' := by
  have hu25 := Try.underlying25
  have HR0_0 := Aside0.mk hr0_0
  have HC0_0 := Aside0.mk hc0_0
  clear hr0_0 hc0_0
  have HB := Aside0.mk (Below.refl w.heap.size w)
  have H : (if a1 ≥ 0 then (if a1 < (l0_0.length : Int) then (if 0 ≤ a1 then (if ((rd_T47 l0_0 a1).f3) ≥ 1 then (some (decide (((rd_T47 l0_0 a1).f3) ≤ (wrap64 ((l0_0.length : Int) - a1))))) else (some false)) else (none)) else (some false)) else (some false)) = some r := h
  clear h
  by_cases c3 : a1 ≥ 0
  · rw [if_pos c3] at H
    have c3b0 : decide (0 ≤ a1) = true := decide_eq_true c3
    clear c3
    by_cases c4 : a1 < (l0_0.length : Int)
    · rw [if_pos c4] at H
      have c4b0 : decide (a1 < (l0_0.length : Int)) = true := decide_eq_true c4
      clear c4
      by_cases c5 : 0 ≤ a1
      · rw [if_pos c5] at H
        have c5b0 : decide (0 ≤ a1) = true := decide_eq_true c5
        clear c5
        by_cases c6 : ((rd_T47 l0_0 a1).f3) ≥ 1
        · rw [if_pos c6] at H
          have c6b0 : decide (1 ≤ ((rd_T47 l0_0 a1).f3)) = true := decide_eq_true c6
          clear c6
          obtain rfl := Option.some.inj H
          go_enter Try.func51, Try.ntmps51
          go_wp2_with (first | ((with_reducible refine gate_dst (N := 2) rfl ?_); (try (refine gate_guard (by rfl) ?_; dsimp only)); refine box_event ?hg (N := 2) ?hd (cs := #[.slice A0_0 l0_0.length c0_0]) (t := 25) ?hr ?_; (case hd => rfl); (case hg => rfl); (case hr => first | (go_simp; done) | (go_simp; rfl)); intro gb219 hg w7 hbox hb; have n0_ := Aside0.mk (below_step (by repeat (first | (with_reducible first | exact HB.out | apply below_alloc | apply pw_below_drewN | apply below_drew1) | exact HB.out)) hb); have n1_ := Aside0.mk (hbox); have n2_ := Aside0.mk ((by rw [hg]; exact (below_size (by repeat (first | (with_reducible first | exact HB.out | apply below_alloc | apply pw_below_drewN | apply below_drew1) | exact HB.out))) : w.heap.size ≤ gb219)); have n3_ := Aside0.mk ((by rw [hg]; exact (below_size (by repeat (first | (with_reducible first | exact HB.out | apply below_alloc | apply pw_below_drewN | apply below_drew1) | exact HB.out))) : w.heap.size ≤ gb219)); clear HB; have HB := n0_; have BK219 := n1_; have GW219 := n2_; have GE219 := n3_; clear n0_ n1_ n2_ n3_; clear hb hbox hg; have hcz8_0 : w7.cell? ⟨gb219, 0, none⟩ = some (.slice A0_0 l0_0.length c0_0) := (blk_cell BK219.out 0).trans rfl; have hfz8_0 := blk_frozen BK219.out 0; have p220 : 0 ≤ (a1 : Int) := of_decide_eq_true (by first | (with_reducible assumption) | assumption); have q220 : a1 < (l0_0.length : Int) := of_decide_eq_true (by first | (with_reducible assumption) | assumption); obtain ⟨ad220, e220, hx220_0, hx220_1, hx220_2, hx220_3⟩ := at_T47 HR0_0.out a1 p220 q220; cases e220; replace hx220_0 := (HB.out.cell (World.block_lt_of_cell? w _ hx220_0)).trans hx220_0; replace hx220_1 := (HB.out.cell (World.block_lt_of_cell? w _ hx220_1)).trans hx220_1; replace hx220_2 := (HB.out.cell (World.block_lt_of_cell? w _ hx220_2)).trans hx220_2; replace hx220_3 := (HB.out.cell (World.block_lt_of_cell? w _ hx220_3)).trans hx220_3; replace p220 := eq_true p220; replace q220 := eq_true q220; have p221 : 0 ≤ (a1 : Int) := of_decide_eq_true (by first | (with_reducible assumption) | assumption); have q221 : a1 < (l0_0.length : Int) := of_decide_eq_true (by first | (with_reducible assumption) | assumption); obtain ⟨ad221, e221, hx221_0, hx221_1, hx221_2, hx221_3⟩ := at_T47 HR0_0.out a1 p221 q221; obtain rfl : ad220 = ad221 := (by injection e221); replace hx221_0 := (HB.out.cell (World.block_lt_of_cell? w _ hx221_0)).trans hx221_0; replace hx221_1 := (HB.out.cell (World.block_lt_of_cell? w _ hx221_1)).trans hx221_1; replace hx221_2 := (HB.out.cell (World.block_lt_of_cell? w _ hx221_2)).trans hx221_2; replace hx221_3 := (HB.out.cell (World.block_lt_of_cell? w _ hx221_3)).trans hx221_3; replace p221 := eq_true p221; replace q221 := eq_true q221))
          repeat (go_quiet (first | ((with_reducible refine gate_dst (N := 2) rfl ?_); (try (refine gate_guard (by rfl) ?_; dsimp only)); refine box_event ?hg (N := 2) ?hd (cs := #[.slice A0_0 l0_0.length c0_0]) (t := 25) ?hr ?_; (case hd => rfl); (case hg => rfl); (case hr => first | (go_simp; done) | (go_simp; rfl)); intro gb219 hg w7 hbox hb; have n0_ := Aside0.mk (below_step (by repeat (first | (with_reducible first | exact HB.out | apply below_alloc | apply pw_below_drewN | apply below_drew1) | exact HB.out)) hb); have n1_ := Aside0.mk (hbox); have n2_ := Aside0.mk ((by rw [hg]; exact (below_size (by repeat (first | (with_reducible first | exact HB.out | apply below_alloc | apply pw_below_drewN | apply below_drew1) | exact HB.out))) : w.heap.size ≤ gb219)); have n3_ := Aside0.mk ((by rw [hg]; exact (below_size (by repeat (first | (with_reducible first | exact HB.out | apply below_alloc | apply pw_below_drewN | apply below_drew1) | exact HB.out))) : w.heap.size ≤ gb219)); clear HB; have HB := n0_; have BK219 := n1_; have GW219 := n2_; have GE219 := n3_; clear n0_ n1_ n2_ n3_; clear hb hbox hg; have hcz8_0 : w7.cell? ⟨gb219, 0, none⟩ = some (.slice A0_0 l0_0.length c0_0) := (blk_cell BK219.out 0).trans rfl; have hfz8_0 := blk_frozen BK219.out 0; have p220 : 0 ≤ (a1 : Int) := of_decide_eq_true (by first | (with_reducible assumption) | assumption); have q220 : a1 < (l0_0.length : Int) := of_decide_eq_true (by first | (with_reducible assumption) | assumption); obtain ⟨ad220, e220, hx220_0, hx220_1, hx220_2, hx220_3⟩ := at_T47 HR0_0.out a1 p220 q220; cases e220; replace hx220_0 := (HB.out.cell (World.block_lt_of_cell? w _ hx220_0)).trans hx220_0; replace hx220_1 := (HB.out.cell (World.block_lt_of_cell? w _ hx220_1)).trans hx220_1; replace hx220_2 := (HB.out.cell (World.block_lt_of_cell? w _ hx220_2)).trans hx220_2; replace hx220_3 := (HB.out.cell (World.block_lt_of_cell? w _ hx220_3)).trans hx220_3; replace p220 := eq_true p220; replace q220 := eq_true q220; have p221 : 0 ≤ (a1 : Int) := of_decide_eq_true (by first | (with_reducible assumption) | assumption); have q221 : a1 < (l0_0.length : Int) := of_decide_eq_true (by first | (with_reducible assumption) | assumption); obtain ⟨ad221, e221, hx221_0, hx221_1, hx221_2, hx221_3⟩ := at_T47 HR0_0.out a1 p221 q221; obtain rfl : ad220 = ad221 := (by injection e221); replace hx221_0 := (HB.out.cell (World.block_lt_of_cell? w _ hx221_0)).trans hx221_0; replace hx221_1 := (HB.out.cell (World.block_lt_of_cell? w _ hx221_1)).trans hx221_1; replace hx221_2 := (HB.out.cell (World.block_lt_of_cell? w _ hx221_2)).trans hx221_2; replace hx221_3 := (HB.out.cell (World.block_lt_of_cell? w _ hx221_3)).trans hx221_3; replace p221 := eq_true p221; replace q221 := eq_true q221)); try go_wp2_with (first | ((with_reducible refine gate_dst (N := 2) rfl ?_); (try (refine gate_guard (by rfl) ?_; dsimp only)); refine box_event ?hg (N := 2) ?hd (cs := #[.slice A0_0 l0_0.length c0_0]) (t := 25) ?hr ?_; (case hd => rfl); (case hg => rfl); (case hr => first | (go_simp; done) | (go_simp; rfl)); intro gb219 hg w7 hbox hb; have n0_ := Aside0.mk (below_step (by repeat (first | (with_reducible first | exact HB.out | apply below_alloc | apply pw_below_drewN | apply below_drew1) | exact HB.out)) hb); have n1_ := Aside0.mk (hbox); have n2_ := Aside0.mk ((by rw [hg]; exact (below_size (by repeat (first | (with_reducible first | exact HB.out | apply below_alloc | apply pw_below_drewN | apply below_drew1) | exact HB.out))) : w.heap.size ≤ gb219)); have n3_ := Aside0.mk ((by rw [hg]; exact (below_size (by repeat (first | (with_reducible first | exact HB.out | apply below_alloc | apply pw_below_drewN | apply below_drew1) | exact HB.out))) : w.heap.size ≤ gb219)); clear HB; have HB := n0_; have BK219 := n1_; have GW219 := n2_; have GE219 := n3_; clear n0_ n1_ n2_ n3_; clear hb hbox hg; have hcz8_0 : w7.cell? ⟨gb219, 0, none⟩ = some (.slice A0_0 l0_0.length c0_0) := (blk_cell BK219.out 0).trans rfl; have hfz8_0 := blk_frozen BK219.out 0; have p220 : 0 ≤ (a1 : Int) := of_decide_eq_true (by first | (with_reducible assumption) | assumption); have q220 : a1 < (l0_0.length : Int) := of_decide_eq_true (by first | (with_reducible assumption) | assumption); obtain ⟨ad220, e220, hx220_0, hx220_1, hx220_2, hx220_3⟩ := at_T47 HR0_0.out a1 p220 q220; cases e220; replace hx220_0 := (HB.out.cell (World.block_lt_of_cell? w _ hx220_0)).trans hx220_0; replace hx220_1 := (HB.out.cell (World.block_lt_of_cell? w _ hx220_1)).trans hx220_1; replace hx220_2 := (HB.out.cell (World.block_lt_of_cell? w _ hx220_2)).trans hx220_2; replace hx220_3 := (HB.out.cell (World.block_lt_of_cell? w _ hx220_3)).trans hx220_3; replace p220 := eq_true p220; replace q220 := eq_true q220; have p221 : 0 ≤ (a1 : Int) := of_decide_eq_true (by first | (with_reducible assumption) | assumption); have q221 : a1 < (l0_0.length : Int) := of_decide_eq_true (by first | (with_reducible assumption) | assumption); obtain ⟨ad221, e221, hx221_0, hx221_1, hx221_2, hx221_3⟩ := at_T47 HR0_0.out a1 p221 q221; obtain rfl : ad220 = ad221 := (by injection e221); replace hx221_0 := (HB.out.cell (World.block_lt_of_cell? w _ hx221_0)).trans hx221_0; replace hx221_1 := (HB.out.cell (World.block_lt_of_cell? w _ hx221_1)).trans hx221_1; replace hx221_2 := (HB.out.cell (World.block_lt_of_cell? w _ hx221_2)).trans hx221_2; replace hx221_3 := (HB.out.cell (World.block_lt_of_cell? w _ hx221_3)).trans hx221_3; replace p221 := eq_true p221; replace q221 := eq_true q221)))
          go_ret
          exact ⟨by first | rfl | (simp [errW_none, errW_some] <;> rfl) | (simp [*, errW_none, errW_some] <;> rfl), by repeat (first | (with_reducible first | exact HB.out | apply below_alloc | apply pw_below_drewN | apply below_drew1 | refine below_set ?_ GE219.out) | exact HB.out)⟩
        · rw [if_neg c6] at H
          have c6b0 : decide (1 ≤ ((rd_T47 l0_0 a1).f3)) = false := decide_eq_false c6
          clear c6
          obtain rfl := Option.some.inj H
          go_enter Try.func51, Try.ntmps51
          go_wp2_with (first | ((with_reducible refine gate_dst (N := 2) rfl ?_); (try (refine gate_guard (by rfl) ?_; dsimp only)); refine box_event ?hg (N := 2) ?hd (cs := #[.slice A0_0 l0_0.length c0_0]) (t := 25) ?hr ?_; (case hd => rfl); (case hg => rfl); (case hr => first | (go_simp; done) | (go_simp; rfl)); intro gb219 hg w9 hbox hb; have n0_ := Aside0.mk (below_step (by repeat (first | (with_reducible first | exact HB.out | apply below_alloc | apply pw_below_drewN | apply below_drew1) | exact HB.out)) hb); have n1_ := Aside0.mk (hbox); have n2_ := Aside0.mk ((by rw [hg]; exact (below_size (by repeat (first | (with_reducible first | exact HB.out | apply below_alloc | apply pw_below_drewN | apply below_drew1) | exact HB.out))) : w.heap.size ≤ gb219)); have n3_ := Aside0.mk ((by rw [hg]; exact (below_size (by repeat (first | (with_reducible first | exact HB.out | apply below_alloc | apply pw_below_drewN | apply below_drew1) | exact HB.out))) : w.heap.size ≤ gb219)); clear HB; have HB := n0_; have BK219 := n1_; have GW219 := n2_; have GE219 := n3_; clear n0_ n1_ n2_ n3_; clear hb hbox hg; have hcz10_0 : w9.cell? ⟨gb219, 0, none⟩ = some (.slice A0_0 l0_0.length c0_0) := (blk_cell BK219.out 0).trans rfl; have hfz10_0 := blk_frozen BK219.out 0; have p220 : 0 ≤ (a1 : Int) := of_decide_eq_true (by first | (with_reducible assumption) | assumption); have q220 : a1 < (l0_0.length : Int) := of_decide_eq_true (by first | (with_reducible assumption) | assumption); obtain ⟨ad220, e220, hx220_0, hx220_1, hx220_2, hx220_3⟩ := at_T47 HR0_0.out a1 p220 q220; cases e220; replace hx220_0 := (HB.out.cell (World.block_lt_of_cell? w _ hx220_0)).trans hx220_0; replace hx220_1 := (HB.out.cell (World.block_lt_of_cell? w _ hx220_1)).trans hx220_1; replace hx220_2 := (HB.out.cell (World.block_lt_of_cell? w _ hx220_2)).trans hx220_2; replace hx220_3 := (HB.out.cell (World.block_lt_of_cell? w _ hx220_3)).trans hx220_3; replace p220 := eq_true p220; replace q220 := eq_true q220))
          repeat (go_quiet (first | ((with_reducible refine gate_dst (N := 2) rfl ?_); (try (refine gate_guard (by rfl) ?_; dsimp only)); refine box_event ?hg (N := 2) ?hd (cs := #[.slice A0_0 l0_0.length c0_0]) (t := 25) ?hr ?_; (case hd => rfl); (case hg => rfl); (case hr => first | (go_simp; done) | (go_simp; rfl)); intro gb219 hg w9 hbox hb; have n0_ := Aside0.mk (below_step (by repeat (first | (with_reducible first | exact HB.out | apply below_alloc | apply pw_below_drewN | apply below_drew1) | exact HB.out)) hb); have n1_ := Aside0.mk (hbox); have n2_ := Aside0.mk ((by rw [hg]; exact (below_size (by repeat (first | (with_reducible first | exact HB.out | apply below_alloc | apply pw_below_drewN | apply below_drew1) | exact HB.out))) : w.heap.size ≤ gb219)); have n3_ := Aside0.mk ((by rw [hg]; exact (below_size (by repeat (first | (with_reducible first | exact HB.out | apply below_alloc | apply pw_below_drewN | apply below_drew1) | exact HB.out))) : w.heap.size ≤ gb219)); clear HB; have HB := n0_; have BK219 := n1_; have GW219 := n2_; have GE219 := n3_; clear n0_ n1_ n2_ n3_; clear hb hbox hg; have hcz10_0 : w9.cell? ⟨gb219, 0, none⟩ = some (.slice A0_0 l0_0.length c0_0) := (blk_cell BK219.out 0).trans rfl; have hfz10_0 := blk_frozen BK219.out 0; have p220 : 0 ≤ (a1 : Int) := of_decide_eq_true (by first | (with_reducible assumption) | assumption); have q220 : a1 < (l0_0.length : Int) := of_decide_eq_true (by first | (with_reducible assumption) | assumption); obtain ⟨ad220, e220, hx220_0, hx220_1, hx220_2, hx220_3⟩ := at_T47 HR0_0.out a1 p220 q220; cases e220; replace hx220_0 := (HB.out.cell (World.block_lt_of_cell? w _ hx220_0)).trans hx220_0; replace hx220_1 := (HB.out.cell (World.block_lt_of_cell? w _ hx220_1)).trans hx220_1; replace hx220_2 := (HB.out.cell (World.block_lt_of_cell? w _ hx220_2)).trans hx220_2; replace hx220_3 := (HB.out.cell (World.block_lt_of_cell? w _ hx220_3)).trans hx220_3; replace p220 := eq_true p220; replace q220 := eq_true q220)); try go_wp2_with (first | ((with_reducible refine gate_dst (N := 2) rfl ?_); (try (refine gate_guard (by rfl) ?_; dsimp only)); refine box_event ?hg (N := 2) ?hd (cs := #[.slice A0_0 l0_0.length c0_0]) (t := 25) ?hr ?_; (case hd => rfl); (case hg => rfl); (case hr => first | (go_simp; done) | (go_simp; rfl)); intro gb219 hg w9 hbox hb; have n0_ := Aside0.mk (below_step (by repeat (first | (with_reducible first | exact HB.out | apply below_alloc | apply pw_below_drewN | apply below_drew1) | exact HB.out)) hb); have n1_ := Aside0.mk (hbox); have n2_ := Aside0.mk ((by rw [hg]; exact (below_size (by repeat (first | (with_reducible first | exact HB.out | apply below_alloc | apply pw_below_drewN | apply below_drew1) | exact HB.out))) : w.heap.size ≤ gb219)); have n3_ := Aside0.mk ((by rw [hg]; exact (below_size (by repeat (first | (with_reducible first | exact HB.out | apply below_alloc | apply pw_below_drewN | apply below_drew1) | exact HB.out))) : w.heap.size ≤ gb219)); clear HB; have HB := n0_; have BK219 := n1_; have GW219 := n2_; have GE219 := n3_; clear n0_ n1_ n2_ n3_; clear hb hbox hg; have hcz10_0 : w9.cell? ⟨gb219, 0, none⟩ = some (.slice A0_0 l0_0.length c0_0) := (blk_cell BK219.out 0).trans rfl; have hfz10_0 := blk_frozen BK219.out 0; have p220 : 0 ≤ (a1 : Int) := of_decide_eq_true (by first | (with_reducible assumption) | assumption); have q220 : a1 < (l0_0.length : Int) := of_decide_eq_true (by first | (with_reducible assumption) | assumption); obtain ⟨ad220, e220, hx220_0, hx220_1, hx220_2, hx220_3⟩ := at_T47 HR0_0.out a1 p220 q220; cases e220; replace hx220_0 := (HB.out.cell (World.block_lt_of_cell? w _ hx220_0)).trans hx220_0; replace hx220_1 := (HB.out.cell (World.block_lt_of_cell? w _ hx220_1)).trans hx220_1; replace hx220_2 := (HB.out.cell (World.block_lt_of_cell? w _ hx220_2)).trans hx220_2; replace hx220_3 := (HB.out.cell (World.block_lt_of_cell? w _ hx220_3)).trans hx220_3; replace p220 := eq_true p220; replace q220 := eq_true q220)))
          go_ret
          exact ⟨by first | rfl | (simp [errW_none, errW_some] <;> rfl) | (simp [*, errW_none, errW_some] <;> rfl), by repeat (first | (with_reducible first | exact HB.out | apply below_alloc | apply pw_below_drewN | apply below_drew1 | refine below_set ?_ GE219.out) | exact HB.out)⟩
      · rw [if_neg c5] at H
        exact absurd H (by simp)
    · rw [if_neg c4] at H
      have c4b0 : decide (a1 < (l0_0.length : Int)) = false := decide_eq_false c4
      clear c4
      obtain rfl := Option.some.inj H
      go_enter Try.func51, Try.ntmps51
      go_wp2_with (first | ((with_reducible refine gate_dst (N := 2) rfl ?_); (try (refine gate_guard (by rfl) ?_; dsimp only)); refine box_event ?hg (N := 2) ?hd (cs := #[.slice A0_0 l0_0.length c0_0]) (t := 25) ?hr ?_; (case hd => rfl); (case hg => rfl); (case hr => first | (go_simp; done) | (go_simp; rfl)); intro gb219 hg w11 hbox hb; have n0_ := Aside0.mk (below_step (by repeat (first | (with_reducible first | exact HB.out | apply below_alloc | apply pw_below_drewN | apply below_drew1) | exact HB.out)) hb); have n1_ := Aside0.mk (hbox); have n2_ := Aside0.mk ((by rw [hg]; exact (below_size (by repeat (first | (with_reducible first | exact HB.out | apply below_alloc | apply pw_below_drewN | apply below_drew1) | exact HB.out))) : w.heap.size ≤ gb219)); have n3_ := Aside0.mk ((by rw [hg]; exact (below_size (by repeat (first | (with_reducible first | exact HB.out | apply below_alloc | apply pw_below_drewN | apply below_drew1) | exact HB.out))) : w.heap.size ≤ gb219)); clear HB; have HB := n0_; have BK219 := n1_; have GW219 := n2_; have GE219 := n3_; clear n0_ n1_ n2_ n3_; clear hb hbox hg; have hcz12_0 : w11.cell? ⟨gb219, 0, none⟩ = some (.slice A0_0 l0_0.length c0_0) := (blk_cell BK219.out 0).trans rfl; have hfz12_0 := blk_frozen BK219.out 0))
      repeat (go_quiet (first | ((with_reducible refine gate_dst (N := 2) rfl ?_); (try (refine gate_guard (by rfl) ?_; dsimp only)); refine box_event ?hg (N := 2) ?hd (cs := #[.slice A0_0 l0_0.length c0_0]) (t := 25) ?hr ?_; (case hd => rfl); (case hg => rfl); (case hr => first | (go_simp; done) | (go_simp; rfl)); intro gb219 hg w11 hbox hb; have n0_ := Aside0.mk (below_step (by repeat (first | (with_reducible first | exact HB.out | apply below_alloc | apply pw_below_drewN | apply below_drew1) | exact HB.out)) hb); have n1_ := Aside0.mk (hbox); have n2_ := Aside0.mk ((by rw [hg]; exact (below_size (by repeat (first | (with_reducible first | exact HB.out | apply below_alloc | apply pw_below_drewN | apply below_drew1) | exact HB.out))) : w.heap.size ≤ gb219)); have n3_ := Aside0.mk ((by rw [hg]; exact (below_size (by repeat (first | (with_reducible first | exact HB.out | apply below_alloc | apply pw_below_drewN | apply below_drew1) | exact HB.out))) : w.heap.size ≤ gb219)); clear HB; have HB := n0_; have BK219 := n1_; have GW219 := n2_; have GE219 := n3_; clear n0_ n1_ n2_ n3_; clear hb hbox hg; have hcz12_0 : w11.cell? ⟨gb219, 0, none⟩ = some (.slice A0_0 l0_0.length c0_0) := (blk_cell BK219.out 0).trans rfl; have hfz12_0 := blk_frozen BK219.out 0)); try go_wp2_with (first | ((with_reducible refine gate_dst (N := 2) rfl ?_); (try (refine gate_guard (by rfl) ?_; dsimp only)); refine box_event ?hg (N := 2) ?hd (cs := #[.slice A0_0 l0_0.length c0_0]) (t := 25) ?hr ?_; (case hd => rfl); (case hg => rfl); (case hr => first | (go_simp; done) | (go_simp; rfl)); intro gb219 hg w11 hbox hb; have n0_ := Aside0.mk (below_step (by repeat (first | (with_reducible first | exact HB.out | apply below_alloc | apply pw_below_drewN | apply below_drew1) | exact HB.out)) hb); have n1_ := Aside0.mk (hbox); have n2_ := Aside0.mk ((by rw [hg]; exact (below_size (by repeat (first | (with_reducible first | exact HB.out | apply below_alloc | apply pw_below_drewN | apply below_drew1) | exact HB.out))) : w.heap.size ≤ gb219)); have n3_ := Aside0.mk ((by rw [hg]; exact (below_size (by repeat (first | (with_reducible first | exact HB.out | apply below_alloc | apply pw_below_drewN | apply below_drew1) | exact HB.out))) : w.heap.size ≤ gb219)); clear HB; have HB := n0_; have BK219 := n1_; have GW219 := n2_; have GE219 := n3_; clear n0_ n1_ n2_ n3_; clear hb hbox hg; have hcz12_0 : w11.cell? ⟨gb219, 0, none⟩ = some (.slice A0_0 l0_0.length c0_0) := (blk_cell BK219.out 0).trans rfl; have hfz12_0 := blk_frozen BK219.out 0)))
      go_ret
      exact ⟨by first | rfl | (simp [errW_none, errW_some] <;> rfl) | (simp [*, errW_none, errW_some] <;> rfl), by repeat (first | (with_reducible first | exact HB.out | apply below_alloc | apply pw_below_drewN | apply below_drew1 | refine below_set ?_ GE219.out) | exact HB.out)⟩
  · rw [if_neg c3] at H
    have c3b0 : decide (0 ≤ a1) = false := decide_eq_false c3
    clear c3
    obtain rfl := Option.some.inj H
    go_enter Try.func51, Try.ntmps51
    go_wp2_with (first | ((with_reducible refine gate_dst (N := 2) rfl ?_); (try (refine gate_guard (by rfl) ?_; dsimp only)); refine box_event ?hg (N := 2) ?hd (cs := #[.slice A0_0 l0_0.length c0_0]) (t := 25) ?hr ?_; (case hd => rfl); (case hg => rfl); (case hr => first | (go_simp; done) | (go_simp; rfl)); intro gb219 hg w13 hbox hb; have n0_ := Aside0.mk (below_step (by repeat (first | (with_reducible first | exact HB.out | apply below_alloc | apply pw_below_drewN | apply below_drew1) | exact HB.out)) hb); have n1_ := Aside0.mk (hbox); have n2_ := Aside0.mk ((by rw [hg]; exact (below_size (by repeat (first | (with_reducible first | exact HB.out | apply below_alloc | apply pw_below_drewN | apply below_drew1) | exact HB.out))) : w.heap.size ≤ gb219)); have n3_ := Aside0.mk ((by rw [hg]; exact (below_size (by repeat (first | (with_reducible first | exact HB.out | apply below_alloc | apply pw_below_drewN | apply below_drew1) | exact HB.out))) : w.heap.size ≤ gb219)); clear HB; have HB := n0_; have BK219 := n1_; have GW219 := n2_; have GE219 := n3_; clear n0_ n1_ n2_ n3_; clear hb hbox hg))
    repeat (go_quiet (first | ((with_reducible refine gate_dst (N := 2) rfl ?_); (try (refine gate_guard (by rfl) ?_; dsimp only)); refine box_event ?hg (N := 2) ?hd (cs := #[.slice A0_0 l0_0.length c0_0]) (t := 25) ?hr ?_; (case hd => rfl); (case hg => rfl); (case hr => first | (go_simp; done) | (go_simp; rfl)); intro gb219 hg w13 hbox hb; have n0_ := Aside0.mk (below_step (by repeat (first | (with_reducible first | exact HB.out | apply below_alloc | apply pw_below_drewN | apply below_drew1) | exact HB.out)) hb); have n1_ := Aside0.mk (hbox); have n2_ := Aside0.mk ((by rw [hg]; exact (below_size (by repeat (first | (with_reducible first | exact HB.out | apply below_alloc | apply pw_below_drewN | apply below_drew1) | exact HB.out))) : w.heap.size ≤ gb219)); have n3_ := Aside0.mk ((by rw [hg]; exact (below_size (by repeat (first | (with_reducible first | exact HB.out | apply below_alloc | apply pw_below_drewN | apply below_drew1) | exact HB.out))) : w.heap.size ≤ gb219)); clear HB; have HB := n0_; have BK219 := n1_; have GW219 := n2_; have GE219 := n3_; clear n0_ n1_ n2_ n3_; clear hb hbox hg)); try go_wp2_with (first | ((with_reducible refine gate_dst (N := 2) rfl ?_); (try (refine gate_guard (by rfl) ?_; dsimp only)); refine box_event ?hg (N := 2) ?hd (cs := #[.slice A0_0 l0_0.length c0_0]) (t := 25) ?hr ?_; (case hd => rfl); (case hg => rfl); (case hr => first | (go_simp; done) | (go_simp; rfl)); intro gb219 hg w13 hbox hb; have n0_ := Aside0.mk (below_step (by repeat (first | (with_reducible first | exact HB.out | apply below_alloc | apply pw_below_drewN | apply below_drew1) | exact HB.out)) hb); have n1_ := Aside0.mk (hbox); have n2_ := Aside0.mk ((by rw [hg]; exact (below_size (by repeat (first | (with_reducible first | exact HB.out | apply below_alloc | apply pw_below_drewN | apply below_drew1) | exact HB.out))) : w.heap.size ≤ gb219)); have n3_ := Aside0.mk ((by rw [hg]; exact (below_size (by repeat (first | (with_reducible first | exact HB.out | apply below_alloc | apply pw_below_drewN | apply below_drew1) | exact HB.out))) : w.heap.size ≤ gb219)); clear HB; have HB := n0_; have BK219 := n1_; have GW219 := n2_; have GE219 := n3_; clear n0_ n1_ n2_ n3_; clear hb hbox hg)))
    go_ret
    exact ⟨by first | rfl | (simp [errW_none, errW_some] <;> rfl) | (simp [*, errW_none, errW_some] <;> rfl), by repeat (first | (with_reducible first | exact HB.out | apply below_alloc | apply pw_below_drewN | apply below_drew1 | refine below_set ?_ GE219.out) | exact HB.out)⟩

end Go.Proofs.Ytodldpdnhcafpaa.F

namespace Go.Proofs.Ytodldpdnhcafpaa.K
open Go.RowKit Go.Proofs.YtodldpdnhcafpaaW.PrintWords Go.Proofs.YtodldpdnhcafpaaW.PrintLast Go.Proofs.YtodldpdnhcafpaaW.PrintMore
open Go.Proofs.Ytodldpdnhcafpaa.F
set_option linter.unusedVariables false
set_option linter.unusedSimpArgs false

theorem info3' : (Try.prog.info? 3).map (fun i => (i.zero, i.size, i.bytes)) = some (some (.int .i64 0), 1, 8) := by kernel_rfl

end Go.Proofs.Ytodldpdnhcafpaa.K

-- Plain walks of regions serve in a round of a loop over an iterator (the wide fence): operation for operation.
namespace Go.Proofs.Ytodldpdnhcafpaa.K
open Go.RowKit Go.Proofs.YtodldpdnhcafpaaW.PrintWords Go.Proofs.YtodldpdnhcafpaaW.PrintLast Go.Proofs.YtodldpdnhcafpaaW.PrintMore

def noDefer (o : Oper) : Bool := match o.op with | .defer _ => false | _ => true

section
variable {P : Program} {ops : Array Oper} {Q : Exit → Act → World → Prop} {n lp : Nat}

theorem rows_bridge {row : String} {args : Array Value} {w : World} {R : Value → World → Prop} (h : Rows P row args w R) : RowsIn (Fence.wide.inRound lp) n P row args w R :=
  fun c cs _ => let ⟨v, w', r, s⟩ := h c cs; ⟨v, w', r, by rw [fenced_inRound]; exact stepsIn_wide.2 s⟩

/-- No way out by growing. -/
def noOut (Q : Exit → Act → World → Prop) : Exit → Act → World → Prop
  | .outgrown, _, _ => False
  | e, a, w => Q e a w
theorem noOut_normal {a : Act} {w : World} : noOut Q .normal a w = Q .normal a w := rfl
theorem noOut_lets : ¬ LetsOut (noOut Q) := fun ⟨_, _, h⟩ => h

theorem oper_bridge {o : Oper} (hd : noDefer o = true) {a : Act} {w : World} {K : Act → World → Prop} (h : o.wp P a w K (noOut Q)) : o.wpIn (Fence.wide.inRound lp) n P a w K Q := by
  refine ⟨fun _ _ => trivial, ?_⟩
  have he : o.semAt (Fence.wide.inRound lp).round a.eval = execOp a.eval o :=
    Oper.semAt_some lp a.eval o (by intro c hc; simp [noDefer, hc] at hd)
  rw [he]
  unfold Oper.wp at h
  have hdep : (Fence.wide.inRound lp).depth.isSome = true → 1 ≤ n := fun h => by simp [Fence.wide] at h
  generalize (execOp a.eval o).run P w = r at *
  cases r with
  | ok x w' =>
    cases x <;> simp only [Oper.upon, Oper.uponIn] at h ⊢ <;>
      first
        | exact h
        | exact ⟨hdep, CallsIn.inRound _ (callsIn_wide.2 (Calls.mono h (fun e w' he => by cases e <;> first | exact he | exact absurd he noOut_lets)))⟩
        | exact ⟨hdep, rows_bridge h⟩
  | halt x w' => cases x <;> simp only [Oper.upon, Oper.uponIn] at h ⊢ <;> exact h

theorem list_bridge : ∀ (l : List Oper), l.all noDefer = true → ∀ a w, wpList P ops (noOut Q) l a w → wpListIn (Fence.wide.inRound lp) n P ops Q l a w
  | [], _, _, _, h => h
  | o :: rest, hd, a, w, h => by
    simp only [List.all_cons, Bool.and_eq_true] at hd
    unfold wpList at h
    unfold wpListIn
    split at h
    · rename_i hw
      rw [if_pos hw]
      rcases h with h | h
      · exact oper_bridge hd.1 (Oper.wp_mono (fun a w => list_bridge rest hd.2 a w) h)
      · exact absurd h.2 noOut_lets
    · rename_i hw
      rw [if_neg hw]
      exact ⟨fun _ _ => trivial, list_bridge rest hd.2 _ _ h⟩

end

/-- A loop's code by a name; what is asked behind by a name. -/
theorem name_loop {P : Program} {c : Code} {Q : Exit → Act → World → Prop} {a : Act} {w : World} (h : ∀ L, c = L → (Code.loop L).wp P Q a w) : (Code.loop c).wp P Q a w := h c rfl
theorem name_post {P : Program} {c : Code} {Q : Exit → Act → World → Prop} {a : Act} {w : World} (h : ∀ Q', Q = Q' → c.wp P Q' a w) : c.wp P Q a w := h Q rfl

/-- What lies in blocks of cells abides the turn of a block that is none. -/
theorem R_own {α : Type} {d : Kd α} {e : Nat} {A B : World} {base : Nat} {ok : Nat → Prop} {v : Value} {xs : List α} {row : Option Nat} (h : d.R e A base ok v xs) (hg : A.grownBy B row)
    (hr : ∀ r, row = some r → ∃ o : Obj, A.heap[r]? = some o ∧ o.isCells = false) : d.R e B base ok v xs :=
  Kd.R_mono (Kd.R_step (Kd.R_bound h) (fun k ⟨_, _, hlt, q, _, cells, hk⟩ hlt' => hg.block k hlt' (fun e' => by
    obtain ⟨_, ho, hc⟩ := hr k e'.symm
    rw [hk] at ho
    cases ho
    cases hc))) (fun _ hk => hk.1)
theorem blk_own {A B : World} {row : Option Nat} {b t : Nat} {cs : Array Value} {d : Nat × Nat} (h : A.heap[b]? = some (.cells cs t d)) (hg : A.grownBy B row)
    (hr : ∀ r, row = some r → ∃ o : Obj, A.heap[r]? = some o ∧ o.isCells = false) : B.heap[b]? = some (.cells cs t d) :=
  (hg.block b (Array.getElem?_eq_some_iff.1 h).1 (fun e' => by
    obtain ⟨_, ho, hc⟩ := hr b e'.symm
    rw [h] at ho
    cases ho
    cases hc)).trans h
/-- The law of a loop over an iterator of one variable, at the wide fence, between plain walks. -/
theorem rf1 {P : Program} {α : Type} {g : Operand} {p s : Tmp} {assign body : Code} {Q : Exit → Act → World → Prop} {a : Act} {w : World} {gf : Nat} {lb : Array Value}
    (hg : a.eval g = .func (.func gf) #[] lb) (eg : ∀ args w, (callFunc gf args).run P w = .ok (.enter gf args) w)
    {enc : α → Value} {Kp : World → World → Prop} {S Sp : List α → Prop} {N : Nat} (hseq : SeqStopsK Fence.wide 2 P gf lb (fun x => #[enc x]) Kp S Sp N w)
    (hKt : ∀ {A B C : World}, Kp A B → Kp B C → Kp A C) (hKb : ∀ (W : World) (l : Nat) (o o' : Obj), w.heap.size ≤ l → W.heap[l]? = some o → o.isCells = false → o.isWalk = false → Kp W (W.putObj l o'))
    (I : List α → World → Prop) (Ix : Code → List α → World → Prop) (hI : OwnFrom w.heap.size I) (hIx : ∀ c, OwnFrom w.heap.size (Ix c)) (h0 : I [] w)
    (hassign : ∀ (l : Nat) (x : α) (W : World) (K : Act → World → Prop), K { tmps := (a.tmps.setIfInBounds p (enc x)).setIfInBounds s (enc x), defers := [] } W →
      assign.wpIn (Fence.wide.inRound l) 1 P (Exit.then K (fun _ _ _ => False)) { tmps := a.tmps.setIfInBounds p (enc x), defers := [] } W)
    (hbody : ∀ (l : Nat) (pre : List α) (x : α) (W : World), I pre W → pre.length < N → body.wpIn (Fence.wide.inRound l) 1 P (ownPostG w.heap.size Kp I Ix (pre ++ [x]) W) { tmps := (a.tmps.setIfInBounds p (enc x)).setIfInBounds s (enc x), defers := [] } W)
    (hdone : ∀ (D : Nat) (xs : List α) (W : World), w.heap.size ≤ D → S xs → I xs W → W.heap[D]? = some (.deferred (some [])) → Q .normal { a with defers := { target := .collected D, args := #[] } :: a.defers } W)
    (hstop : ∀ (D : Nat) (c : Code) (pre : List α) (W : World), w.heap.size ≤ D → Sp pre → Ix c pre W → W.heap[D]? = some (.deferred (some [])) → c.wp P Q { a with defers := { target := .collected D, args := #[] } :: a.defers } W) :
    (Code.rangeFunc g #[p] assign body).wp P Q a w :=
  (wpIn_wide (n := 3)).1 (wpIn_rangeFunc_ownG (F := Fence.wide) (n := 3) rfl (by omega) hg trivial eg hseq (fun h k => hKt h k) hKb (Below.refl _ _) (fun _ => rfl) I Ix hI hIx h0 _ (fun l x W K hK => by simpa using hassign l x W K hK) hbody hdone
    (fun D c pre W a b c' d => wpIn_wide.2 (hstop D c pre W a b c' d)))

/-- All that lay lies as it lay, but for one box. -/
def KeepB (W0 : World) (g : Nat) (W : World) : Prop := W0.heap.size ≤ W.heap.size ∧ ∀ k, k < W0.heap.size → k ≠ g → W.heap[k]? = W0.heap[k]?
theorem KeepB.refl (W0 : World) (g : Nat) : KeepB W0 g W0 := ⟨Nat.le_refl _, fun _ _ _ => rfl⟩
theorem KeepB.blk {W0 W : World} {g b : Nat} {o : Obj} (h : KeepB W0 g W) (hb : W0.heap[b]? = some o) (hne : b ≠ g) : W.heap[b]? = some o := (h.2 b (blk_lt hb) hne).trans hb
theorem KeepB.R {α : Type} {d : Kd α} {e base g : Nat} {v : Value} {xs : List α} {W0 W : World} (h : KeepB W0 g W) (hR : d.R e W0 base (fun k => k ≠ g) v xs) : d.R e W base (fun k => k ≠ g) v xs :=
  Kd.R_step hR (fun k hk hlt => h.2 k hlt hk)
theorem KeepB.trans {W0 W W' : World} {g : Nat} (h : KeepB W0 g W) (h' : W.heap.size ≤ W'.heap.size) (hk : ∀ k, k < W0.heap.size → k ≠ g → W'.heap[k]? = W.heap[k]?) : KeepB W0 g W' :=
  ⟨Nat.le_trans h.1 h', fun k h1 h2 => (hk k h1 h2).trans (h.2 k h1 h2)⟩
theorem keepB_own {s : Type} (W0 : World) (g : Nat) : OwnFrom W0.heap.size (fun (_ : s) W => KeepB W0 g W) :=
  fun _ A B row h hg hr => h.trans hg.size (fun k hk _ => hg.block k (Nat.lt_of_lt_of_le hk h.1) (fun e => by have := (hr k e.symm).1; omega))
/-- A box that holds a row which has grown since. -/
def BoxR {α : Type} (d : Kd α) (t e : Nat) (g base b0 : Nat) (xs : List α) (W : World) : Prop := ∃ v, W.heap[g]? = some (.cells #[v] t (0, 0)) ∧ d.R e W base (fun k => b0 ≤ k) v xs
theorem boxR_own {α s : Type} {d : Kd α} {t e g base b0 B : Nat} (f : s → List α) : OwnFrom B (fun x W => BoxR d t e g base b0 (f x) W) :=
  fun _ _ _ _ ⟨v, hb, hR⟩ hg hr => ⟨v, blk_own hb hg (fun r e => (hr r e).2), R_own hR hg (fun r e => (hr r e).2)⟩
end Go.Proofs.Ytodldpdnhcafpaa.K

-- tokens (53, 62): the iterator's contract
namespace Go.Proofs.Ytodldpdnhcafpaa.K
open Go.RowKit Go.Shelf Go.Proofs.YtodldpdnhcafpaaW.PrintWords Go.Proofs.YtodldpdnhcafpaaW.PrintLast Go.Proofs.YtodldpdnhcafpaaW.PrintMore
open Go.Proofs.Ytodldpdnhcafpaa.F
attribute [local go_sem] Oper.semAt_some max2_int min2_int max_two min_two
set_option linter.unusedVariables false
set_option linter.unusedSimpArgs false

/-- What a round keeps: what lay ahead of the call, the two boxes. -/
def KpT (n₀ b1 b2 : Nat) (W W' : World) : Prop := Below n₀ W W' ∧ W'.heap[b1]? = W.heap[b1]? ∧ W'.heap[b2]? = W.heap[b2]?
theorem KpT.trans {n₀ b1 b2 : Nat} {A B C : World} (h : KpT n₀ b1 b2 A B) (k : KpT n₀ b1 b2 B C) : KpT n₀ b1 b2 A C := ⟨h.1.trans k.1, k.2.1.trans h.2.1, k.2.2.trans h.2.2⟩
theorem KpT.refl (n₀ b1 b2 : Nat) (A : World) : KpT n₀ b1 b2 A A := ⟨Below.refl _ _, rfl, rfl⟩

end Go.Proofs.Ytodldpdnhcafpaa.K

-- Text (29): its contract (made by wip/mkgtext.py)
namespace Go.Proofs.Ytodldpdnhcafpaa.F
open Go.RowKit Go.Shelf Go.Proofs.YtodldpdnhcafpaaW.PrintWords Go.Proofs.YtodldpdnhcafpaaW.PrintLast Go.Proofs.YtodldpdnhcafpaaW.PrintMore
open Go.Proofs.Ytodldpdnhcafpaa.K
attribute [local go_sem] Oper.semAt_some
set_option linter.unusedVariables false
set_option linter.unusedSimpArgs false

/-- The normal way out alone. -/
def onlyN (Q : Exit → Act → World → Prop) : Exit → Act → World → Prop
  | .normal, a, w => Q .normal a w
  | _, _, _ => False
theorem onlyN_normal {Q : Exit → Act → World → Prop} {a : Act} {w : World} : onlyN Q .normal a w = Q .normal a w := rfl
theorem start_n {P : Program} {ops : Array Oper} {Q : Exit → Act → World → Prop} {S : World → Prop} {ds : List Nat} {id n : Nat} {a : Act} {w : World} (l : Array Bool) (hm : P.follows .mixedOrders = true) (hn : ops.size = n) (hl : Array.replicate n false = l) (hS : S w.drew)
    (h : S w.drew → wpAnyLast P .any ops (onlyN Q) S ds n l a w.drew) : (Code.region id ops true).wp P Q a w :=
  wp_mono (start_ l hm hn hl hS h) (fun e a w h => by cases e <;> first | exact h | exact h.elim)
end Go.Proofs.Ytodldpdnhcafpaa.F

-- Same (33): its contract (made by wip/mkgsame.py)
namespace Go.Proofs.Ytodldpdnhcafpaa.F
open Go.RowKit Go.Shelf Go.Proofs.YtodldpdnhcafpaaW.PrintWords Go.Proofs.YtodldpdnhcafpaaW.PrintLast Go.Proofs.YtodldpdnhcafpaaW.PrintMore
open Go.Proofs.Ytodldpdnhcafpaa.K
attribute [local go_sem] Oper.semAt_some
set_option linter.unusedVariables false
set_option linter.unusedSimpArgs false

def mark (D : Nat) : Deferred := { target := .collected D, args := #[] }
/-- A row in a box has been appended to and stored. -/
theorem appR_step {α : Type} {d : Kd α} {t e : Nat} {W w1 : World} {g base b0 : Nat} {v v1 : Value} {xs ys : List α}
    (hbox : W.heap[g]? = some (.cells #[v] t (0, 0))) (hg0 : g < b0) (hb0 : base ≤ b0) (hr : d.R e W base (fun k => b0 ≤ k) v xs) (hbase : base ≤ W.heap.size) (hge : base ≤ g) (ho : d.R e w1 base (fun k => b0 ≤ k) v1 ys) (hgr : W.grownBy w1 v.ownBlock) :
    (w1.setCell ⟨g, 0, none⟩ v1).heap[g]? = some (.cells #[v1] t (0, 0)) ∧ d.R e (w1.setCell ⟨g, 0, none⟩ v1) base (fun k => b0 ≤ k) v1 ys ∧
    (∀ k, k < b0 → k ≠ g → k < W.heap.size → (w1.setCell ⟨g, 0, none⟩ v1).heap[k]? = W.heap[k]?) ∧ (∀ B, KeepsFrom B W (w1.setCell ⟨g, 0, none⟩ v1)) ∧ Below base W (w1.setCell ⟨g, 0, none⟩ v1) := by
  have hne : ∀ k, k < b0 → some k ≠ v.ownBlock := fun k hk e => by
    have h : b0 ≤ k := hr.1 _ e.symm
    omega
  have h1 : w1.heap[g]? = some (.cells #[v] t (0, 0)) := blk_grown hbox hgr (hne g hg0)
  refine ⟨blk_put h1 0 _ rfl, Kd.R_far (p := ⟨g, 0, none⟩) ho (fun k hk => (by have : b0 ≤ k := hk; show k ≠ g; omega)) v1, fun k hk hkg hlt => ?_, fun B => ⟨by simpa using hgr.size, fun k o _ hk hc => ?_⟩, ?_⟩
  · exact (Below.heap_setCell w1 ⟨g, 0, none⟩ v1 k hkg).trans (hgr.block k hlt (hne k hk))
  · have hkg : k ≠ g := fun e => by rw [e, hbox] at hk; cases hk; cases hc
    refine (Below.heap_setCell w1 ⟨g, 0, none⟩ v1 k hkg).trans ((hgr.block k (blk_lt hk) (fun e => ?_)).trans hk)
    obtain ⟨_, _, _, q, _, cells, hcell⟩ := (Kd.R_bound hr).1 k e.symm
    rw [hcell] at hk
    cases hk
    cases hc
  · exact ((Below.refl base W).grown hgr hbase fun k e => by
      have h : b0 ≤ k := hr.1 _ e
      omega).setCell (p := ⟨g, 0, none⟩) hge v1
theorem marks_set {w W : World} {g8 : Nat} {ds : List Nat} {v : Value} {cs : Array Value} {t : Nat} {d : Nat × Nat} (hm : ∀ D ∈ ds, w.heap.size ≤ D ∧ W.heap[D]? = some (.deferred (some []))) (h8 : W.heap[g8]? = some (.cells cs t d)) :
    ∀ D ∈ ds, w.heap.size ≤ D ∧ (W.setCell ⟨g8, 0, none⟩ v).heap[D]? = some (.deferred (some [])) := fun D hD =>
  ⟨(hm D hD).1, (Below.heap_setCell W ⟨g8, 0, none⟩ v D (fun e => by have := (hm D hD).2; rw [e, h8] at this; cases this)).trans (hm D hD).2⟩
theorem marks_below {w W W' : World} {ds : List Nat} (hm : ∀ D ∈ ds, w.heap.size ≤ D ∧ W.heap[D]? = some (.deferred (some []))) (hb : Below W.heap.size W W') :
    ∀ D ∈ ds, w.heap.size ≤ D ∧ W'.heap[D]? = some (.deferred (some [])) := fun D hD => ⟨(hm D hD).1, blk_below (hm D hD).2 hb⟩

end Go.Proofs.Ytodldpdnhcafpaa.F

namespace Go.Proofs.Ytodldpdnhcafpaa.Q
open Go.RowKit Go.Proofs.YtodldpdnhcafpaaW.PrintWords Go.Proofs.YtodldpdnhcafpaaW.PrintLast Go.Proofs.YtodldpdnhcafpaaW.PrintMore
open Go.Proofs.Ytodldpdnhcafpaa.F Go.Proofs.Ytodldpdnhcafpaa.K
set_option linter.unusedSimpArgs false
set_option linter.unusedVariables false

theorem kw64 {x : Int} (h0 : -9223372036854775808 ≤ x) (h1 : x ≤ 9223372036854775807) : wrap64 x = x := by unfold wrap64; omega
def sizedB (l : List S47) (n : Int) : Bool := decide (0 ≤ n) && (decide (n < (l.length : Int)) && (decide (1 ≤ (rd_T47 l n).f3) && decide ((rd_T47 l n).f3 ≤ (l.length : Int) - n)))
theorem sized_is (l : List S47) (hl : l.length ≤ 4398046511104) (n : Int) : tree_sized.f l n = some (sizedB l n) := by
  unfold tree_sized.f sizedB
  by_cases h1 : n ≥ 0
  · by_cases h2 : n < (l.length : Int)
    · rw [if_pos h1, if_pos h2, if_pos h1, kw64 (by omega) (by omega)]
      by_cases h3 : (rd_T47 l n).f3 ≥ 1
      · rw [if_pos h3]
        simp [h1, h2, show 1 ≤ (rd_T47 l n).f3 from h3]
      · rw [if_neg h3]
        simp [h1, h2, show ¬ 1 ≤ (rd_T47 l n).f3 from h3]
    · rw [if_pos h1, if_neg h2]; simp [h2]
  · rw [if_neg h1]; simp [show ¬ 0 ≤ n from h1]

end Go.Proofs.Ytodldpdnhcafpaa.Q

-- Walk (25, 50): the iterator's contract
namespace Go.Proofs.Ytodldpdnhcafpaa.K
open Go.RowKit Go.Shelf Go.Proofs.YtodldpdnhcafpaaW.PrintWords Go.Proofs.YtodldpdnhcafpaaW.PrintLast Go.Proofs.YtodldpdnhcafpaaW.PrintMore
open Go.Proofs.Ytodldpdnhcafpaa.F
attribute [local go_sem] Oper.semAt_some max2_int min2_int max_two min_two
set_option linter.unusedVariables false
set_option linter.unusedSimpArgs false

/-- The numbers of a Walk from x on, up to en. -/
def walkL (l : List S47) (sk : Int → Bool) (en : Int) : Nat → Int → List Int
  | 0, _ => []
  | d + 1, x => if x < en then x :: (if sk x = true then (if (rd_T47 l x).f3 < 1 then [] else if (rd_T47 l x).f3 > en - x then [] else walkL l sk en d (x + (rd_T47 l x).f3)) else walkL l sk en d (x + 1)) else []
def walkOf (l : List S47) (sk : Int → Bool) (n : Int) : List Int := if Q.sizedB l n = true then walkL l sk (n + (rd_T47 l n).f3) l.length n else []
abbrev Nd (l : List S47) := { x : Int // 0 ≤ x ∧ x < (l.length : Int) }
def valsN {l : List S47} (xs : List (Nd l)) : List Int := xs.map (·.1)
/-- What is asked of skip: nil, or a function that only looks. -/
def SkipIs (w0 : World) (sv : Value) (sk : Int → Bool) : Prop :=
  (sv = Value.nilFunc ∧ ∀ x, sk x = false) ∨ (∃ g lb, sv = .func (.func g) #[] lb ∧ (∀ args W, (callFunc g args).run Try.prog W = .ok (.enter g args) W) ∧ ∀ (x : Int) (W : World), Below w0.heap.size w0 W → Calls Try.prog g (#[.int .i64 x] ++ lb) W fun e w' => e = .returned (.bool (sk x)) ∧ Below W.heap.size W w')
def KpW (n₀ b1 b2 b3 : Nat) (W W' : World) : Prop := Below n₀ W W' ∧ W'.heap[b1]? = W.heap[b1]? ∧ W'.heap[b2]? = W.heap[b2]? ∧ W'.heap[b3]? = W.heap[b3]?
theorem KpW.trans {n₀ b1 b2 b3 : Nat} {A B C : World} (h : KpW n₀ b1 b2 b3 A B) (k : KpW n₀ b1 b2 b3 B C) : KpW n₀ b1 b2 b3 A C := ⟨h.1.trans k.1, k.2.1.trans h.2.1, k.2.2.1.trans h.2.2.1, k.2.2.2.trans h.2.2.2⟩

theorem nil_nil (W : World) : (binOp BinOp.eql 40 Value.nilFunc Value.nilFunc).run Try.prog W = .ok (.bool true) W := by
  first | rfl | (simp [binOp, go_sem, Try.underlying40]; done)
theorem fn_nil (W : World) (g : Nat) (lb : Array Value) : (binOp BinOp.eql 40 (Value.func (.func g) #[] lb) Value.nilFunc).run Try.prog W = .ok (.bool false) W := by
  first | rfl | (simp [binOp, go_sem, Try.underlying40]; done)

set_option maxRecDepth 100000 in
set_option maxHeartbeats 2000000 in
theorem walk1_in (n : Nat) (hn : 1 ≤ n) (lp b1 b2 b3 : Nat) (w0 : World) (A : Option Addr) (c : Nat) (l : List S47) (m : Int) (sv : Value) (sk : Int → Bool) (hl : l.length ≤ 4398046511104) (hc : Kd.C k47 w0 A l.length l) (hlc : l.length ≤ c) (hsk : SkipIs w0 sv sk) (J Jx : List (Nd l) → World → Prop)
    (hJ : ∀ s X Y, J s X → Below X.heap.size X Y → J s Y)
    (hY : ∀ pre (x : Nd l) W, J pre W → pre.length < l.length → YieldAt Fence.wide (n - 1) Try.prog lp #[.int .i64 x.1] W fun e W' =>
      (e = .returned (.bool true) ∧ J (pre ++ [x]) W' ∧ KpW w0.heap.size b1 b2 b3 W W') ∨ (e = .returned (.bool false) ∧ Jx (pre ++ [x]) W'))
    (W : World) (hW : Below w0.heap.size w0 W) (h1 : W.heap[b1]? = some (.cells #[.slice A l.length c] 25 (0, 0))) (h2 : W.heap[b2]? = some (.cells #[.int .i64 m] 3 (0, 0))) (h3 : W.heap[b3]? = some (.cells #[sv] 40 (0, 0))) (h0 : J [] W) :
    CallsIn Fence.wide n Try.prog 50 #[.func (.yield lp) #[] #[], .pointer (some ⟨b1, 0, none⟩), .pointer (some ⟨b2, 0, none⟩), .pointer (some ⟨b3, 0, none⟩)] W fun e W' => (∃ v, e = .returned v) ∧
      ((∃ ys : List (Nd l), valsN ys = walkOf l sk m ∧ J ys W') ∨ (∃ pre : List (Nd l), valsN pre <+: walkOf l sk m ∧ Jx pre W')) := by
  have hu23 := Try.underlying23
  have hu25 := Try.underlying25
  have hu40 := Try.underlying40
  have hu47 := Try.underlying47
  have q1 : W.cell? ⟨b1, 0, none⟩ = some (.slice A l.length c) := (blk_cell h1 0).trans rfl
  have q2 : W.cell? ⟨b2, 0, none⟩ = some (.int .i64 m) := (blk_cell h2 0).trans rfl
  obtain ⟨wl, hwl⟩ : ∃ wl, walkOf l sk m = wl := ⟨_, rfl⟩
  rw [hwl]
  refine callsIn_of_wp Try.func50 rfl trivial ?_ rfl
  simp only [Try.ntmps50, List.size_toArray, List.length_cons, List.length_nil, Nat.reduceAdd, Nat.reduceSub, Array.replicate_succ, Array.replicate_zero, List.push_toArray, List.append_toArray, List.nil_append, List.cons_append]
  gi_wp2
  refine ⟨trivial, ?_⟩
  cases hs : Q.sizedB l m with
  | false =>
    have hwo : wl = [] := by rw [← hwl]; unfold walkOf; rw [hs]; rfl
    subst hwo
    refine (callsIn_wide.2 (tree_sized.calls A c l m false W (Kd.C_below hc hW) hlc (by rw [Q.sized_is l hl m, hs]))).mono ?_
    rintro e w1 ⟨rfl, hb1⟩
    have h01 := hJ _ _ _ h0 hb1
    gi_wp2
    refine bodyPost_ret (results_none rfl _ _ _) rfl ?_
    exact ⟨⟨_, rfl⟩, .inl ⟨[], rfl, h01⟩⟩
  | true =>
    refine (callsIn_wide.2 (tree_sized.calls A c l m true W (Kd.C_below hc hW) hlc (by rw [Q.sized_is l hl m, hs]))).mono ?_
    rintro e w1 ⟨rfl, hb1⟩
    have hW1 : Below w0.heap.size w0 w1 := hW.trans (hb1.mono hW.size)
    have h01 := hJ _ _ _ h0 hb1
    have g1 := blk_below h1 hb1
    have g2 := blk_below h2 hb1
    have g3 := blk_below h3 hb1
    clear q1 q2 h0 h1 h2 h3 hW hb1
    have hs' := hs
    unfold Q.sizedB at hs'
    simp only [Bool.and_eq_true, decide_eq_true_eq] at hs'
    obtain ⟨s1, s2, s3, s4⟩ := hs'
    obtain ⟨ad, rfl, y0, y1, y2, y3⟩ := at_T47 (Kd.C_below hc hW1) m s1 s2
    have q1 : w1.cell? ⟨b1, 0, none⟩ = some (.slice (some ad) l.length c) := (blk_cell g1 0).trans rfl
    have q2 : w1.cell? ⟨b2, 0, none⟩ = some (.int .i64 m) := (blk_cell g2 0).trans rfl
    have hw : wrap64 (m + (rd_T47 l m).f3) = m + (rd_T47 l m).f3 := by unfold wrap64; omega
    have hwo : walkL l sk (m + (rd_T47 l m).f3) l.length m = wl := by rw [← hwl]; unfold walkOf; rw [if_pos hs]
    clear hs hwl
    obtain ⟨en, hen⟩ : ∃ en, m + (rd_T47 l m).f3 = en := ⟨_, rfl⟩
    have hel : en ≤ (l.length : Int) := by omega
    have hme : m < en := by omega
    gi_wp2
    refine wpIn_wide.2 ?_
    go_quiet (fail)
    simp only [hw, hen] at hwo ⊢
    have q2' : (w1.drewN nq).cell? ⟨b2, 0, none⟩ = some (.int .i64 m) := q2
    gi_wp2
    have hd0 : Below w0.heap.size w0 (w1.drewN nq) := pw_below_drewN hW1 nq
    have hj0 : J [] (w1.drewN nq) := hJ _ _ _ h01 (pw_below_drewN (Below.refl _ _) nq)
    have k1 : (w1.drewN nq).heap[b1]? = some (.cells #[.slice (some ad) l.length c] 25 (0, 0)) := blk_drewN g1 nq
    have k3 : (w1.drewN nq).heap[b3]? = some (.cells #[sv] 40 (0, 0)) := blk_drewN g3 nq
    generalize w1.drewN nq = w2 at hd0 hj0 k1 k3 ⊢
    clear q1 q2 q2' g1 g2 g3 h01 hW1 y0 y1 y2 y3 hw
    gi_loopw [6, 7] (fun v6 v7 wr => ∃ (x : Int) (d : Nat) (pre : List (Nd l)), v6 = .int .i64 x ∧ m ≤ x ∧ x ≤ en ∧ (pre.length : Int) ≤ x - m ∧ en - x ≤ d ∧ valsN pre ++ walkL l sk en d x = wl ∧ J pre wr ∧ Below w0.heap.size w0 wr ∧ wr.heap[b1]? = some (.cells #[.slice (some ad) l.length c] 25 (0, 0)) ∧ wr.heap[b3]? = some (.cells #[sv] 40 (0, 0))) (fun v6 v7 _ => (en - intOf v6).toNat)
    case atStart => exact ⟨m, l.length, [], rfl, Int.le_refl _, by omega, by simp, by omega, by simpa [valsN] using hwo, hj0, hd0, k1, k3⟩
    case round =>
      obtain ⟨x, d, pre, rfl, hx, hxe, hpl, hxd, hpre, hJs, hB, r1, r3⟩ := hrel
      by_cases hlt : x < en
      · have hx0 : 0 ≤ x := by omega
        have hxl : x < (l.length : Int) := by omega
        obtain ⟨d, rfl⟩ : ∃ e, d = e + 1 := ⟨d - 1, by omega⟩
        simp only [walkL] at hpre
        rw [if_pos hlt] at hpre
        obtain ⟨fn, tmps, assign, body, hy, hR⟩ := hY pre ⟨x, hx0, hxl⟩ wr hJs (by omega)
        dsimp only at hy
        have hsn : valsN (pre ++ [(⟨x, hx0, hxl⟩ : Nd l)]) = valsN pre ++ [x] := by simp [valsN]
        gi_wp2
        refine hR.mono ?_
        rintro e W3 (⟨rfl, hJ3, hk3⟩ | ⟨rfl, hJx3⟩)
        · have hB3 := hB.trans hk3.1
          have t1 := hk3.2.1.trans r1
          have t3 := hk3.2.2.2.trans r3
          have q3 : W3.cell? ⟨b3, 0, none⟩ = some sv := (blk_cell t3 0).trans rfl
          have hw1 : wrap64 (x + 1) = x + 1 := by unfold wrap64; omega
          have hpl3 : (((pre ++ [(⟨x, hx0, hxl⟩ : Nd l)]).length : Nat) : Int) = (pre.length : Int) + 1 := by rw [List.length_append, List.length_singleton]; rfl
          rcases hsk with ⟨rfl, hsf⟩ | ⟨g, lb, rfl, eg, hsf⟩
          · rw [hsf x] at hpre
            simp only [Bool.false_eq_true, if_false] at hpre
            have nn := nil_nil W3
            gi_wp2
            refine ⟨fun _ h => (by cases h), ?_⟩
            gi_wp2
            go_roundw
            case rel => exact ⟨x + 1, d, pre ++ [⟨x, hx0, hxl⟩], rfl, by omega, by omega, by rw [hpl3]; omega, by omega, by rw [hsn, List.append_assoc]; exact hpre, hJ3, hB3, t1, t3⟩
            case measure => simp only [intOf]; omega
          · have nn := fn_nil W3 g lb
            gi_wp2
            refine ⟨trivial, ?_⟩
            refine (callsIn_wide.2 (hsf x W3 hB3)).mono ?_
            rintro e W4 ⟨rfl, hb4⟩
            have hJ4 := hJ _ _ _ hJ3 hb4
            have hB4 := hB3.trans (hb4.mono hB3.size)
            have v1 := blk_below t1 hb4
            have v3 := blk_below t3 hb4
            cases hq : sk x with
            | false =>
              rw [hq] at hpre
              simp only [Bool.false_eq_true, if_false] at hpre
              gi_wp2
              go_roundw
              case rel => exact ⟨x + 1, d, pre ++ [⟨x, hx0, hxl⟩], rfl, by omega, by omega, by rw [hpl3]; omega, by omega, by rw [hsn, List.append_assoc]; exact hpre, hJ4, hB4, v1, v3⟩
              case measure => simp only [intOf]; omega
            | true =>
              rw [hq] at hpre
              simp only [if_true] at hpre
              obtain ⟨ad', ea, z0, z1, z2, z3⟩ := at_T47 (Kd.C_below hc hB4) x hx0 hxl
              cases ea
              have q1 : W4.cell? ⟨b1, 0, none⟩ = some (.slice (some ad) l.length c) := (blk_cell v1 0).trans rfl
              have hw3 : wrap64 (en - x) = en - x := by unfold wrap64; omega
              have hdone : ∀ X, valsN pre ++ [x] = X → valsN (pre ++ [(⟨x, hx0, hxl⟩ : Nd l)]) = X := fun X h => by rw [hsn]; exact h
              by_cases c1 : (rd_T47 l x).f3 < 1
              · rw [if_pos c1] at hpre
                gi_wp2
                refine bodyPost_ret (results_none rfl _ _ _) rfl ?_
                exact ⟨⟨_, rfl⟩, .inl ⟨_, hdone _ hpre, hJ4⟩⟩
              · rw [if_neg c1] at hpre
                by_cases c2 : (rd_T47 l x).f3 > en - x
                · rw [if_pos c2] at hpre
                  gi_wp2
                  all_goals (refine bodyPost_ret (results_none rfl _ _ _) rfl ?_)
                  all_goals exact ⟨⟨_, rfl⟩, .inl ⟨_, hdone _ hpre, hJ4⟩⟩
                · rw [if_neg c2] at hpre
                  have hw4 : wrap64 (x + (rd_T47 l x).f3) = x + (rd_T47 l x).f3 := by unfold wrap64; omega
                  gi_wp2
                  go_roundw
                  case rel => exact ⟨x + (rd_T47 l x).f3, d, pre ++ [⟨x, hx0, hxl⟩], rfl, by omega, by omega, by rw [hpl3]; omega, by omega, by rw [hsn, List.append_assoc]; exact hpre, hJ4, hB4, v1, v3⟩
                  case measure => simp only [intOf]; omega
        · gi_wp2
          refine bodyPost_ret (results_none rfl _ _ _) rfl ?_
          refine ⟨⟨_, rfl⟩, .inr ⟨_, ?_, hJx3⟩⟩
          rw [hsn, ← hpre]
          exact ⟨_, by rw [List.append_assoc]; rfl⟩
      · gi_wp2
        go_end0
        refine ⟨⟨_, rfl⟩, .inl ⟨pre, ?_, hJs⟩⟩
        rw [← hpre]
        cases d with
        | zero => simp [walkL]
        | succ d => simp only [walkL]; rw [if_neg (by omega), List.append_nil]

theorem KpW_b {n₀ B b1 b2 b3 : Nat} (hn : n₀ ≤ B) (h1 : b1 < B) (h2 : b2 < B) (h3 : b3 < B) (W : World) (l : Nat) (o o' : Obj) (hl : B ≤ l) (ho : W.heap[l]? = some o) (hc : o.isCells = false) (hw : o.isWalk = false) : KpW n₀ b1 b2 b3 W (W.putObj l o') :=
  ⟨(Below.refl n₀ W).grown (grownBy_putObj' W l o') (by have := (Array.getElem?_eq_some_iff.1 ho).1; omega) (fun k e => by cases e; omega), World.putObj_heap_other (by omega), World.putObj_heap_other (by omega), World.putObj_heap_other (by omega)⟩

theorem walk_stops (n : Nat) (hn : 1 ≤ n) (b1 b2 b3 : Nat) (w0 w : World) (A : Option Addr) (c : Nat) (l : List S47) (m : Int) (sv : Value) (sk : Int → Bool) (hl : l.length ≤ 4398046511104) (hc : Kd.C k47 w0 A l.length l) (hlc : l.length ≤ c) (hsk : SkipIs w0 sv sk)
    (hW : Below w0.heap.size w0 w) (h1 : w.heap[b1]? = some (.cells #[.slice A l.length c] 25 (0, 0))) (h2 : w.heap[b2]? = some (.cells #[.int .i64 m] 3 (0, 0))) (h3 : w.heap[b3]? = some (.cells #[sv] 40 (0, 0))) :
    SeqStopsK Fence.wide n Try.prog 50 #[.pointer (some ⟨b1, 0, none⟩), .pointer (some ⟨b2, 0, none⟩), .pointer (some ⟨b3, 0, none⟩)] (fun x : Nd l => #[.int .i64 x.1]) (KpW w0.heap.size b1 b2 b3) (fun ys => valsN ys = walkOf l sk m) (fun pre => valsN pre <+: walkOf l sk m) l.length w :=
  fun lp J Jx W hb hJ _ hY h0 => walk1_in n hn lp b1 b2 b3 w0 A c l m sv sk hl hc hlc hsk J Jx (fun s X Y h hb => hJ s X Y none h ⟨hb.os, hb.tape, hb.output, hb.size, fun k hk _ => hb.block k hk⟩ (fun r e => by cases e)) hY W (hW.trans (hb.mono hW.size)) (blk_below h1 hb) (blk_below h2 hb) (blk_below h3 hb) h0

theorem walk.calls (A : Option Addr) (m c : Nat) (n : Int) (sv : Value) (hsv : sv = Value.nilFunc ∨ ∃ g lb, sv = .func (.func g) #[] lb) (w : World) :
    Calls Try.prog 25 #[.agg #[.slice A m c], .int .i64 n, sv] w fun e w' => ∃ b1 b2 b3, e = .returned (.func (.func 50) #[] #[.pointer (some ⟨b1, 0, none⟩), .pointer (some ⟨b2, 0, none⟩), .pointer (some ⟨b3, 0, none⟩)]) ∧
      w'.heap[b1]? = some (.cells #[.slice A m c] 25 (0, 0)) ∧ w'.heap[b2]? = some (.cells #[.int .i64 n] 3 (0, 0)) ∧ w'.heap[b3]? = some (.cells #[sv] 40 (0, 0)) ∧ w.heap.size ≤ b1 ∧ w.heap.size ≤ b2 ∧ w.heap.size ≤ b3 ∧ Below w.heap.size w w' := by
  have hu25 := Try.underlying25
  have hu40 := Try.underlying40
  have HB := Aside0.mk (Below.refl w.heap.size w)
  rcases hsv with rfl | ⟨g, lb, rfl⟩
  · go_enter Try.func25, Try.ntmps25
    go_wp2_with (first
      | ((with_reducible refine gate_dst (N := 3) rfl ?_); refine box_event ?hg3 (N := 3) ?hd3 (cs := #[.slice A m c]) (t := 25) ?hr3 ?_; (case hd3 => rfl); (case hg3 => rfl); (case hr3 => first | (go_simp; done) | (go_simp; rfl)); intro g3 hg w1 hbox hb; have n0_ := Aside0.mk (below_step HB.out hb); have n1_ := Aside0.mk hbox; have GE3 := Aside0.mk (show w.heap.size ≤ g3 by rw [hg]; exact Nat.le_refl _); clear HB; have HB := n0_; have BK3 := n1_; clear n0_ n1_ hb hbox hg)
      | ((with_reducible refine gate_dst (N := 4) rfl ?_); refine box_event ?hg4 (N := 4) ?hd4 (cs := #[.int .i64 n]) (t := 3) ?hr4 ?_; (case hd4 => rfl); (case hg4 => rfl); (case hr4 => first | (go_simp; done) | (go_simp; rfl)); intro g4 hg w2 hbox hb; have n0_ := Aside0.mk (below_step HB.out hb); have n1_ := Aside0.mk hbox; have n2_ := Aside0.mk (blk_below BK3.out hb); have GE4 := Aside0.mk (show w.heap.size ≤ g4 by rw [hg]; exact HB.out.size); clear HB BK3; have HB := n0_; have BK4 := n1_; have BK3 := n2_; clear n0_ n1_ n2_ hb hbox hg)
      | ((with_reducible refine gate_dst (N := 5) rfl ?_); refine box_event ?hg5 (N := 5) ?hd5 (cs := #[Value.nilFunc]) (t := 40) ?hr5 ?_; (case hd5 => rfl); (case hg5 => rfl); (case hr5 => first | (go_simp; done) | (go_simp; rfl)); intro g5 hg w3 hbox hb; have n0_ := Aside0.mk (below_step HB.out hb); have n1_ := Aside0.mk hbox; have n2_ := Aside0.mk (blk_below BK3.out hb); have n3_ := Aside0.mk (blk_below BK4.out hb); have GE5 := Aside0.mk (show w.heap.size ≤ g5 by rw [hg]; exact HB.out.size); clear HB BK3 BK4; have HB := n0_; have BK5 := n1_; have BK3 := n2_; have BK4 := n3_; clear n0_ n1_ n2_ n3_ hb hbox hg))
    go_ret
    exact ⟨g3, g4, g5, rfl, BK3.out, BK4.out, BK5.out, GE3.out, GE4.out, GE5.out, HB.out⟩
  · go_enter Try.func25, Try.ntmps25
    go_wp2_with (first
      | ((with_reducible refine gate_dst (N := 3) rfl ?_); refine box_event ?hg3 (N := 3) ?hd3 (cs := #[.slice A m c]) (t := 25) ?hr3 ?_; (case hd3 => rfl); (case hg3 => rfl); (case hr3 => first | (go_simp; done) | (go_simp; rfl)); intro g3 hg w1 hbox hb; have n0_ := Aside0.mk (below_step HB.out hb); have n1_ := Aside0.mk hbox; have GE3 := Aside0.mk (show w.heap.size ≤ g3 by rw [hg]; exact Nat.le_refl _); clear HB; have HB := n0_; have BK3 := n1_; clear n0_ n1_ hb hbox hg)
      | ((with_reducible refine gate_dst (N := 4) rfl ?_); refine box_event ?hg4 (N := 4) ?hd4 (cs := #[.int .i64 n]) (t := 3) ?hr4 ?_; (case hd4 => rfl); (case hg4 => rfl); (case hr4 => first | (go_simp; done) | (go_simp; rfl)); intro g4 hg w2 hbox hb; have n0_ := Aside0.mk (below_step HB.out hb); have n1_ := Aside0.mk hbox; have n2_ := Aside0.mk (blk_below BK3.out hb); have GE4 := Aside0.mk (show w.heap.size ≤ g4 by rw [hg]; exact HB.out.size); clear HB BK3; have HB := n0_; have BK4 := n1_; have BK3 := n2_; clear n0_ n1_ n2_ hb hbox hg)
      | ((with_reducible refine gate_dst (N := 5) rfl ?_); refine box_event ?hg5 (N := 5) ?hd5 (cs := #[.func (.func g) #[] lb]) (t := 40) ?hr5 ?_; (case hd5 => rfl); (case hg5 => rfl); (case hr5 => first | (go_simp; done) | (go_simp; rfl)); intro g5 hg w3 hbox hb; have n0_ := Aside0.mk (below_step HB.out hb); have n1_ := Aside0.mk hbox; have n2_ := Aside0.mk (blk_below BK3.out hb); have n3_ := Aside0.mk (blk_below BK4.out hb); have GE5 := Aside0.mk (show w.heap.size ≤ g5 by rw [hg]; exact HB.out.size); clear HB BK3 BK4; have HB := n0_; have BK5 := n1_; have BK3 := n2_; have BK4 := n3_; clear n0_ n1_ n2_ n3_ hb hbox hg))
    go_ret
    exact ⟨g3, g4, g5, rfl, BK3.out, BK4.out, BK5.out, GE3.out, GE4.out, GE5.out, HB.out⟩
end Go.Proofs.Ytodldpdnhcafpaa.K

-- chosen (26, 52): its contract, as a Walk asks it
namespace Go.Proofs.Ytodldpdnhcafpaa.K
open Go.RowKit Go.Shelf Go.Proofs.YtodldpdnhcafpaaW.PrintWords Go.Proofs.YtodldpdnhcafpaaW.PrintLast Go.Proofs.YtodldpdnhcafpaaW.PrintMore
open Go.Proofs.Ytodldpdnhcafpaa.F
set_option linter.unusedVariables false
set_option linter.unusedSimpArgs false

/-- The bit that is asked. -/
def chV (bits x : Int) : Int := Go.bits .and .u64 (shr .u64 bits (IntKind.u64.wrap (Go.bits .and .i64 x 63))) 1
def chB (bits x : Int) : Bool := chV bits x == 1
theorem chosen1.calls (bits x : Int) (b : Nat) (W : World) (hb : W.heap[b]? = some (.cells #[.int .u64 bits] 36 (0, 0))) :
    Calls Try.prog 52 #[.int .i64 x, .pointer (some ⟨b, 0, none⟩)] W fun e w' => e = .returned (.bool (chB bits x)) ∧ Below W.heap.size W w' := by
  have hu36 := Try.underlying36
  have q : W.cell? ⟨b, 0, none⟩ = some (.int .u64 bits) := (blk_cell hb 0).trans rfl
  have HB := Aside0.mk (Below.refl W.heap.size W)
  go_enter Try.func52, Try.ntmps52
  go_wp2
  go_ret
  exact ⟨rfl, HB.out⟩
theorem chosen_skip {w0 : World} {bits : Int} {b : Nat} (hb : w0.heap[b]? = some (.cells #[.int .u64 bits] 36 (0, 0))) : SkipIs w0 (.func (.func 52) #[] #[.pointer (some ⟨b, 0, none⟩)]) (chB bits) :=
  .inr ⟨52, _, rfl, enters_of Try.func52 (by kernel_rfl) rfl, fun x W hW => chosen1.calls bits x b W (blk_below hb hW)⟩
theorem nil_skip (w0 : World) : SkipIs w0 Value.nilFunc (fun _ => false) := .inl ⟨rfl, fun _ => rfl⟩
theorem chosen.calls (bits : Int) (w : World) :
    Calls Try.prog 26 #[.int .u64 bits] w fun e w' => ∃ b, e = .returned (.func (.func 52) #[] #[.pointer (some ⟨b, 0, none⟩)]) ∧ w'.heap[b]? = some (.cells #[.int .u64 bits] 36 (0, 0)) ∧ w.heap.size ≤ b ∧ Below w.heap.size w w' := by
  have hu36 := Try.underlying36
  have HB := Aside0.mk (Below.refl w.heap.size w)
  go_enter Try.func26, Try.ntmps26
  go_wp2_with (first
    | ((with_reducible refine gate_dst (N := 1) rfl ?_); refine box_event ?hg3 (N := 1) ?hd3 (cs := #[.int .u64 bits]) (t := 36) ?hr3 ?_; (case hd3 => rfl); (case hg3 => rfl); (case hr3 => first | (go_simp; done) | (go_simp; rfl)); intro g3 hg w1 hbox hb; have n0_ := Aside0.mk (below_step HB.out hb); have n1_ := Aside0.mk hbox; have GE3 := Aside0.mk (show w.heap.size ≤ g3 by rw [hg]; exact Nat.le_refl _); clear HB; have HB := n0_; have BK3 := n1_; clear n0_ n1_ hb hbox hg))
  go_ret
  exact ⟨g3, rfl, BK3.out, GE3.out, HB.out⟩
end Go.Proofs.Ytodldpdnhcafpaa.K

-- The way out of a function that has ranged over functions, whatever its results are
namespace Go.Proofs.Ytodldpdnhcafpaa.F
open Go.RowKit Go.Proofs.YtodldpdnhcafpaaW.PrintWords
open Go.Proofs.Ytodldpdnhcafpaa.K

/-- C: what is known of the world at the way out; it abides the taking in of a mark. -/
theorem out_marks {n : Nat} {P : Program} {fn : Func} {tmps : Array Value} {R : Ending → World → Prop} (w : World) (C : World → Prop)
    (hC : ∀ (W : World) (D : Nat), C W → w.heap.size ≤ D → W.heap[D]? = some (.deferred (some [])) → C (W.putObj D (.deferred none)))
    (hend : ∀ W, C W → ∃ v, (results fn tmps).run P W = .ok v W ∧ R (.returned v) W) :
    ∀ (ds : List Nat) (W : World), (∀ D ∈ ds, w.heap.size ≤ D ∧ W.heap[D]? = some (.deferred (some []))) → ds.Nodup → C W →
    LeavesInM Fence.wide n P fn tmps R (ds.map mark) .returning W
  | [], W, _, _, h => hend W h
  | D :: ds, W, hd, hn, h => by
    obtain ⟨h1, h2⟩ := hd D List.mem_cons_self
    refine ⟨by simp, .inl ⟨D, _, rfl, run_takeDeferred h2, ?_⟩⟩
    refine out_marks w C hC hend ds _ (fun D' hD' => ?_) (List.nodup_cons.1 hn).2 (hC W D h h1 h2)
    obtain ⟨a1, a2⟩ := hd D' (List.mem_cons_of_mem _ hD')
    exact ⟨a1, (World.putObj_heap_other (fun e => by subst e; exact (List.nodup_cons.1 hn).1 hD')).trans a2⟩
/-- One result in a slot; nothing that lay has turned. -/
theorem out_tmp {n : Nat} {P : Program} {fn : Func} {tmps : Array Value} {t : Tmp} (hres : fn.results = #[.tmp t]) (v : Value) (hv : tmps.getD t undef = v) (w : World) (ds : List Nat) (W : World)
    (hd : ∀ D ∈ ds, w.heap.size ≤ D ∧ W.heap[D]? = some (.deferred (some []))) (hn : ds.Nodup) (hB : Below w.heap.size w W) :
    LeavesInM Fence.wide n P fn tmps (fun e w' => e = .returned v ∧ Below w.heap.size w w') (ds.map mark) .returning W :=
  out_marks w (fun W => Below w.heap.size w W) (fun W D h h1 _ => h.grown (grownBy_putObj' W D _) h.size (fun k e => by cases e; exact h1))
    (fun W h => ⟨_, results_tmp hres tmps P W, by rw [hv], h⟩) ds W hd hn hB
end Go.Proofs.Ytodldpdnhcafpaa.F

-- A text of this session's own program (wip/myprint.sh over a changed print tool): functions and their walks
namespace Go.Proofs.Ytodldpdnhcafpaa.F
open Go.RowKit Go.Proofs.YtodldpdnhcafpaaW.PrintWords Go.Proofs.YtodldpdnhcafpaaW.PrintLast Go.Proofs.YtodldpdnhcafpaaW.PrintMore
attribute [local go_sem] max2_int min2_int max_two min_two max_three min_three max_four min_four   -- for this text's walks alone
set_option linter.unusedVariables false
set_option linter.unusedSimpArgs false

/-! ### monikerref4_Walk: function 27 -/
mutual
def monikerref4_Walk.j0 : Nat → Int → Int → Int → Bool → List (S47) → Option (List Int)
  | 0, _, _, _, _, _ => none
  | k + 1, x1, x2, x3, x43, x192000 => if x43 = true then (some ([] : List Int)) else (if 0 ≤ x1 then (if x1 < (x192000.length : Int) then (monikerref4_Walk.l0 k x2 x3 (wrap64 (x1 + ((rd_T47 x192000 x1).f3))) ([] : List Int) x1 x192000) else (none)) else (none))
def monikerref4_Walk.l0 : Nat → Int → Int → Int → List Int → Int → List (S47) → Option (List Int)
  | 0, _, _, _, _, _, _ => none
  | k + 1, x2, x3, x9, x10, x11, x192000 => if x11 < x9 then (monikerref4_Walk.j2 k x2 x3 x9 x10 x11 ((x10.length : Int) != x3) x192000) else (monikerref4_Walk.j2 k x2 x3 x9 x10 x11 false x192000)
def monikerref4_Walk.j2 : Nat → Int → Int → Int → List Int → Int → Bool → List (S47) → Option (List Int)
  | 0, _, _, _, _, _, _, _ => none
  | k + 1, x2, x3, x9, x10, x11, x61, x192000 => if x61 = true then (if x10.length < 17592186044416 then ((some (x10 ++ [x11] : List Int)).bind fun y195 => (if (y195.length : Int) = x3 then (some y195) else (if 0 ≤ (IntKind.u64.wrap (Go.bits .and .i64 x11 63)) then (if (Go.bits .and .u64 (shr .u64 x2 (IntKind.u64.wrap (Go.bits .and .i64 x11 63))) 1) = 0 then (monikerref4_Walk.l0 k x2 x3 x9 y195 (wrap64 (x11 + 1)) x192000) else (if 0 ≤ x11 then (if x11 < (x192000.length : Int) then (if ((rd_T47 x192000 x11).f3) < 1 then (some y195) else (if ((rd_T47 x192000 x11).f3) > (wrap64 (x9 - x11)) then (some y195) else (monikerref4_Walk.l0 k x2 x3 x9 y195 (wrap64 (x11 + ((rd_T47 x192000 x11).f3))) x192000))) else (none)) else (none))) else (none)))) else (none)) else (some x10)
end
def monikerref4_Walk.f (k : Nat) (l0_0 : List (S47)) (a1 : Int) (a2 : Int) (a3 : Int) : Option (List Int) := if a1 < 0 then (monikerref4_Walk.j0 k a1 a2 a3 true l0_0) else (if a1 ≥ (l0_0.length : Int) then (monikerref4_Walk.j0 k a1 a2 a3 true l0_0) else (if 0 ≤ a1 then (if a1 < (l0_0.length : Int) then (if ((rd_T47 l0_0 a1).f3) < 1 then (monikerref4_Walk.j0 k a1 a2 a3 true l0_0) else (monikerref4_Walk.j0 k a1 a2 a3 (decide (((rd_T47 l0_0 a1).f3) > (wrap64 ((l0_0.length : Int) - a1)))) l0_0)) else (none)) else (none)))
set_option maxHeartbeats 8000000 in
set_option maxRecDepth 100000 in
theorem monikerref4_Walk.calls (k : Nat) (A0_0 : Option Addr) (c0_0 : Nat) (l0_0 : List (S47)) (a1 : Int) (a2 : Int) (a3 : Int) (r : List Int) (w : World) (hr0_0 : Kd.C k47 w A0_0 l0_0.length l0_0) (hc0_0 : l0_0.length ≤ c0_0) (h : monikerref4_Walk.f k l0_0 a1 a2 a3 = some r) :
    Calls Try.prog 27 #[.agg #[.slice A0_0 l0_0.length c0_0], .int .i64 a1, .int .u64 a2, .int .i64 a3] w fun e w' => ∃ v0_ : Value, e = .returned (v0_) ∧ Kd.R (Kd.int .i64) 3 w' w.heap.size (fun _ => True) v0_ r ∧ Below w.heap.size w w' := by
  have hu25 := Try.underlying25
  have HR0_0 := Aside0.mk hr0_0
  have HC0_0 := Aside0.mk hc0_0
  clear hr0_0 hc0_0
  have HB := Aside0.mk (Below.refl w.heap.size w)
  have H : (if a1 < 0 then (monikerref4_Walk.j0 k a1 a2 a3 true l0_0) else (if a1 ≥ (l0_0.length : Int) then (monikerref4_Walk.j0 k a1 a2 a3 true l0_0) else (if 0 ≤ a1 then (if a1 < (l0_0.length : Int) then (if ((rd_T47 l0_0 a1).f3) < 1 then (monikerref4_Walk.j0 k a1 a2 a3 true l0_0) else (monikerref4_Walk.j0 k a1 a2 a3 (decide (((rd_T47 l0_0 a1).f3) > (wrap64 ((l0_0.length : Int) - a1)))) l0_0)) else (none)) else (none)))) = some r := h
  clear h
  have HC5 := Aside0.mk H
  clear H
  go_enter Try.func27, Try.ntmps27
  go_upto_region 1 with (first | ((with_reducible refine gate_dst (N := 4) rfl ?_); (try (refine gate_guard (by rfl) ?_; dsimp only)); refine box_event ?hg (N := 4) ?hd (cs := #[.slice A0_0 l0_0.length c0_0]) (t := 25) ?hr ?_; (case hd => rfl); (case hg => rfl); (case hr => first | (go_simp; done) | (go_simp; rfl)); intro gb191 hg w6 hbox hb; have n0_ := Aside0.mk (below_step (by repeat (first | (with_reducible first | exact HB.out | apply below_alloc | apply pw_below_drewN | apply below_drew1) | exact HB.out)) hb); have n1_ := Aside0.mk (hbox); have n2_ := Aside0.mk ((by rw [hg]; exact (below_size (by repeat (first | (with_reducible first | exact HB.out | apply below_alloc | apply pw_below_drewN | apply below_drew1) | exact HB.out))) : w.heap.size ≤ gb191)); have n3_ := Aside0.mk ((by rw [hg]; exact (below_size (by repeat (first | (with_reducible first | exact HB.out | apply below_alloc | apply pw_below_drewN | apply below_drew1) | exact HB.out))) : w.heap.size ≤ gb191)); clear HB; have HB := n0_; have BK191 := n1_; have GW191 := n2_; have GE191 := n3_; clear n0_ n1_ n2_ n3_; clear hb hbox hg))
  repeat (go_quiet (first | ((with_reducible refine gate_dst (N := 4) rfl ?_); (try (refine gate_guard (by rfl) ?_; dsimp only)); refine box_event ?hg (N := 4) ?hd (cs := #[.slice A0_0 l0_0.length c0_0]) (t := 25) ?hr ?_; (case hd => rfl); (case hg => rfl); (case hr => first | (go_simp; done) | (go_simp; rfl)); intro gb191 hg w6 hbox hb; have n0_ := Aside0.mk (below_step (by repeat (first | (with_reducible first | exact HB.out | apply below_alloc | apply pw_below_drewN | apply below_drew1) | exact HB.out)) hb); have n1_ := Aside0.mk (hbox); have n2_ := Aside0.mk ((by rw [hg]; exact (below_size (by repeat (first | (with_reducible first | exact HB.out | apply below_alloc | apply pw_below_drewN | apply below_drew1) | exact HB.out))) : w.heap.size ≤ gb191)); have n3_ := Aside0.mk ((by rw [hg]; exact (below_size (by repeat (first | (with_reducible first | exact HB.out | apply below_alloc | apply pw_below_drewN | apply below_drew1) | exact HB.out))) : w.heap.size ≤ gb191)); clear HB; have HB := n0_; have BK191 := n1_; have GW191 := n2_; have GE191 := n3_; clear n0_ n1_ n2_ n3_; clear hb hbox hg)); go_upto_region 1 with (first | ((with_reducible refine gate_dst (N := 4) rfl ?_); (try (refine gate_guard (by rfl) ?_; dsimp only)); refine box_event ?hg (N := 4) ?hd (cs := #[.slice A0_0 l0_0.length c0_0]) (t := 25) ?hr ?_; (case hd => rfl); (case hg => rfl); (case hr => first | (go_simp; done) | (go_simp; rfl)); intro gb191 hg w6 hbox hb; have n0_ := Aside0.mk (below_step (by repeat (first | (with_reducible first | exact HB.out | apply below_alloc | apply pw_below_drewN | apply below_drew1) | exact HB.out)) hb); have n1_ := Aside0.mk (hbox); have n2_ := Aside0.mk ((by rw [hg]; exact (below_size (by repeat (first | (with_reducible first | exact HB.out | apply below_alloc | apply pw_below_drewN | apply below_drew1) | exact HB.out))) : w.heap.size ≤ gb191)); have n3_ := Aside0.mk ((by rw [hg]; exact (below_size (by repeat (first | (with_reducible first | exact HB.out | apply below_alloc | apply pw_below_drewN | apply below_drew1) | exact HB.out))) : w.heap.size ≤ gb191)); clear HB; have HB := n0_; have BK191 := n1_; have GW191 := n2_; have GE191 := n3_; clear n0_ n1_ n2_ n3_; clear hb hbox hg)))
  (try simp only [Act.put, List.setIfInBounds_toArray, List.set_cons_zero, List.set_cons_succ])
  go_cut [43] (fun v43 wc => ∃ (kq : Nat) (x43_4 : Bool), v43 = .bool x43_4 ∧ Aside0 (monikerref4_Walk.j0 kq a1 a2 a3 x43_4 l0_0 = some r) ∧ Aside0 (kq ≤ k) ∧ Aside0 (wc.heap[gb191]? = some (.cells #[(.slice A0_0 l0_0.length c0_0)] 25 (0, 0))) ∧ Aside0 (Below w.heap.size w wc))
  case first =>
    have H := HC5.out
    clear HC5
    by_cases c7 : a1 < 0
    · rw [if_pos c7] at H
      have c7b0 : decide (a1 < 0) = true := decide_eq_true c7
      clear c7
      (first | rw [c7b0] | (simp only [i64_w, i32_w]; rw [c7b0]) | skip)
      have H' := Aside0.mk H
      clear H
      go_wp2
      repeat (go_quiet (fail); try go_wp2)
      go_meet
      case rel => exact ⟨_, (true), (by first | rfl | (simp; done) | (simp [*]; done)), H', ⟨by first | omega | exact Nat.le_refl _⟩, ⟨by (with_reducible repeat (first | refine blk_drewN ?_ _ | refine blk_drew ?_ | refine blk_alloc ?_ _)); exact BK191.out⟩, ⟨by repeat (first | (with_reducible first | exact HB.out | apply below_alloc | apply pw_below_drewN | apply below_drew1 | refine below_set ?_ GE191.out) | exact HB.out)⟩⟩
    · rw [if_neg c7] at H
      have c7b0 : decide (a1 < 0) = false := decide_eq_false c7
      clear c7
      (first | rw [c7b0] | (simp only [i64_w, i32_w]; rw [c7b0]) | skip)
      by_cases c8 : a1 ≥ (l0_0.length : Int)
      · rw [if_pos c8] at H
        have c8b0 : decide ((l0_0.length : Int) ≤ a1) = true := decide_eq_true c8
        clear c8
        have H' := Aside0.mk H
        clear H
        have hcz9_0 : w6.cell? ⟨gb191, 0, none⟩ = some (.slice A0_0 l0_0.length c0_0) := (blk_cell BK191.out 0).trans rfl
        have hfz9_0 := blk_frozen BK191.out 0
        go_wp2
        repeat (go_quiet (fail); try go_wp2)
        go_meet
        case rel => exact ⟨_, (true), (by first | rfl | (simp; done) | (simp [*]; done)), H', ⟨by first | omega | exact Nat.le_refl _⟩, ⟨by (with_reducible repeat (first | refine blk_drewN ?_ _ | refine blk_drew ?_ | refine blk_alloc ?_ _)); exact BK191.out⟩, ⟨by repeat (first | (with_reducible first | exact HB.out | apply below_alloc | apply pw_below_drewN | apply below_drew1 | refine below_set ?_ GE191.out) | exact HB.out)⟩⟩
      · rw [if_neg c8] at H
        have c8b0 : decide ((l0_0.length : Int) ≤ a1) = false := decide_eq_false c8
        clear c8
        by_cases c10 : 0 ≤ a1
        · rw [if_pos c10] at H
          have c10b0 : decide (0 ≤ a1) = true := decide_eq_true c10
          clear c10
          by_cases c11 : a1 < (l0_0.length : Int)
          · rw [if_pos c11] at H
            have c11b0 : decide (a1 < (l0_0.length : Int)) = true := decide_eq_true c11
            clear c11
            by_cases c12 : ((rd_T47 l0_0 a1).f3) < 1
            · rw [if_pos c12] at H
              have c12b0 : decide (((rd_T47 l0_0 a1).f3) < 1) = true := decide_eq_true c12
              clear c12
              have H' := Aside0.mk H
              clear H
              have hcz13_0 : w6.cell? ⟨gb191, 0, none⟩ = some (.slice A0_0 l0_0.length c0_0) := (blk_cell BK191.out 0).trans rfl
              have hfz13_0 := blk_frozen BK191.out 0
              have p192 : 0 ≤ (a1 : Int) := of_decide_eq_true (by first | (with_reducible assumption) | assumption)
              have q192 : a1 < (l0_0.length : Int) := of_decide_eq_true (by first | (with_reducible assumption) | assumption)
              obtain ⟨ad192, e192, hx192_0, hx192_1, hx192_2, hx192_3⟩ := at_T47 HR0_0.out a1 p192 q192
              cases e192
              replace hx192_0 := (HB.out.cell (World.block_lt_of_cell? w _ hx192_0)).trans hx192_0
              replace hx192_1 := (HB.out.cell (World.block_lt_of_cell? w _ hx192_1)).trans hx192_1
              replace hx192_2 := (HB.out.cell (World.block_lt_of_cell? w _ hx192_2)).trans hx192_2
              replace hx192_3 := (HB.out.cell (World.block_lt_of_cell? w _ hx192_3)).trans hx192_3
              replace p192 := eq_true p192
              replace q192 := eq_true q192
              go_wp2
              repeat (go_quiet (fail); try go_wp2)
              go_meet
              case rel => exact ⟨_, (true), (by first | rfl | (simp; done) | (simp [*]; done)), H', ⟨by first | omega | exact Nat.le_refl _⟩, ⟨by (with_reducible repeat (first | refine blk_drewN ?_ _ | refine blk_drew ?_ | refine blk_alloc ?_ _)); exact BK191.out⟩, ⟨by repeat (first | (with_reducible first | exact HB.out | apply below_alloc | apply pw_below_drewN | apply below_drew1 | refine below_set ?_ GE191.out) | exact HB.out)⟩⟩
            · rw [if_neg c12] at H
              have c12b0 : decide (((rd_T47 l0_0 a1).f3) < 1) = false := decide_eq_false c12
              clear c12
              have H' := Aside0.mk H
              clear H
              have hcz14_0 : w6.cell? ⟨gb191, 0, none⟩ = some (.slice A0_0 l0_0.length c0_0) := (blk_cell BK191.out 0).trans rfl
              have hfz14_0 := blk_frozen BK191.out 0
              have p192 : 0 ≤ (a1 : Int) := of_decide_eq_true (by first | (with_reducible assumption) | assumption)
              have q192 : a1 < (l0_0.length : Int) := of_decide_eq_true (by first | (with_reducible assumption) | assumption)
              obtain ⟨ad192, e192, hx192_0, hx192_1, hx192_2, hx192_3⟩ := at_T47 HR0_0.out a1 p192 q192
              cases e192
              replace hx192_0 := (HB.out.cell (World.block_lt_of_cell? w _ hx192_0)).trans hx192_0
              replace hx192_1 := (HB.out.cell (World.block_lt_of_cell? w _ hx192_1)).trans hx192_1
              replace hx192_2 := (HB.out.cell (World.block_lt_of_cell? w _ hx192_2)).trans hx192_2
              replace hx192_3 := (HB.out.cell (World.block_lt_of_cell? w _ hx192_3)).trans hx192_3
              replace p192 := eq_true p192
              replace q192 := eq_true q192
              have p193 : 0 ≤ (a1 : Int) := of_decide_eq_true (by first | (with_reducible assumption) | assumption)
              have q193 : a1 < (l0_0.length : Int) := of_decide_eq_true (by first | (with_reducible assumption) | assumption)
              obtain ⟨ad193, e193, hx193_0, hx193_1, hx193_2, hx193_3⟩ := at_T47 HR0_0.out a1 p193 q193
              obtain rfl : ad192 = ad193 := (by injection e193)
              replace hx193_0 := (HB.out.cell (World.block_lt_of_cell? w _ hx193_0)).trans hx193_0
              replace hx193_1 := (HB.out.cell (World.block_lt_of_cell? w _ hx193_1)).trans hx193_1
              replace hx193_2 := (HB.out.cell (World.block_lt_of_cell? w _ hx193_2)).trans hx193_2
              replace hx193_3 := (HB.out.cell (World.block_lt_of_cell? w _ hx193_3)).trans hx193_3
              replace p193 := eq_true p193
              replace q193 := eq_true q193
              go_wp2
              repeat (go_quiet (fail); try go_wp2)
              go_meet
              case rel => exact ⟨_, (decide (((rd_T47 l0_0 a1).f3) > (wrap64 ((l0_0.length : Int) - a1)))), (by first | rfl | (simp; done) | (simp [*]; done)), H', ⟨by first | omega | exact Nat.le_refl _⟩, ⟨by (with_reducible repeat (first | refine blk_drewN ?_ _ | refine blk_drew ?_ | refine blk_alloc ?_ _)); exact BK191.out⟩, ⟨by repeat (first | (with_reducible first | exact HB.out | apply below_alloc | apply pw_below_drewN | apply below_drew1 | refine below_set ?_ GE191.out) | exact HB.out)⟩⟩
          · rw [if_neg c11] at H
            exact absurd H (by simp)
        · rw [if_neg c10] at H
          exact absurd H (by simp)
  case rest =>
    clear HC5
    try clear c1
    try clear p1
    try clear q1
    try clear hx1
    try clear c2
    try clear p2
    try clear p6
    try clear c7
    try clear c7b0
    try clear c8
    try clear c8b0
    try clear c10
    try clear c10b0
    try clear c11
    try clear c11b0
    try clear c12
    try clear c12b0
    try clear hcz13_0
    try clear hcz14_0
    try clear hcz9_0
    try clear hfz13_0
    try clear hfz14_0
    try clear hfz9_0
    try clear hx192_0
    try clear hx192_1
    try clear hx192_2
    try clear hx192_3
    try clear hx193_0
    try clear hx193_1
    try clear hx193_2
    try clear hx193_3
    try clear p192
    try clear p193
    try clear q192
    try clear q193
    obtain ⟨kq, x43_4, rfl, HA, HJ4, BK191, HB⟩ := hcut
    cases kq with
    | zero => exact absurd HA.out (by simp [monikerref4_Walk.j0])
    | succ kj4 =>
      have H := HA.out
      clear HA
      simp only [monikerref4_Walk.j0] at H
      by_cases c15 : x43_4 = true
      · subst c15
        have H1 : (some ([] : List Int)) = some r := by rw [if_pos rfl] at H; exact H
        clear H
        have H := H1
        clear H1
        obtain rfl := Option.some.inj H
        go_wp2
        repeat (go_quiet (fail); try go_wp2)
        go_ret
        exact ⟨_, by first | rfl | (simp [errW_none, errW_some] <;> rfl) | (simp [*, errW_none, errW_some] <;> rfl), by first | exact Kd.R_nil _ _ _ _ _ | exact Kd.N_nil _ _ _ _ _ | exact Kd.V_nil _ _ _ _ _ | exact Kd.Q_nil _ _ _ _ _ | exact Kd.S_nil _ _ _ _ _, by repeat (first | (with_reducible first | exact HB.out | apply below_alloc | apply pw_below_drewN | apply below_drew1 | refine below_set ?_ GE191.out) | exact HB.out)⟩
      · replace c15 := Bool.eq_false_iff.mpr c15
        subst c15
        have H1 : (if 0 ≤ a1 then (if a1 < (l0_0.length : Int) then (monikerref4_Walk.l0 kj4 a2 a3 (wrap64 (a1 + ((rd_T47 l0_0 a1).f3))) ([] : List Int) a1 l0_0) else (none)) else (none)) = some r := by rw [if_neg (show ¬ (false = true) by decide)] at H; exact H
        clear H
        have H := H1
        clear H1
        by_cases c16 : 0 ≤ a1
        · rw [if_pos c16] at H
          have c16b0 : decide (0 ≤ a1) = true := decide_eq_true c16
          clear c16
          by_cases c17 : a1 < (l0_0.length : Int)
          · rw [if_pos c17] at H
            have c17b0 : decide (a1 < (l0_0.length : Int)) = true := decide_eq_true c17
            clear c17
            have H' := Aside0.mk H
            clear H
            have hcz18_0 : wc.cell? ⟨gb191, 0, none⟩ = some (.slice A0_0 l0_0.length c0_0) := (blk_cell BK191.out 0).trans rfl
            have hfz18_0 := blk_frozen BK191.out 0
            have p194 : 0 ≤ (a1 : Int) := of_decide_eq_true (by first | (with_reducible assumption) | assumption)
            have q194 : a1 < (l0_0.length : Int) := of_decide_eq_true (by first | (with_reducible assumption) | assumption)
            obtain ⟨ad194, e194, hx194_0, hx194_1, hx194_2, hx194_3⟩ := at_T47 HR0_0.out a1 p194 q194
            cases e194
            replace hx194_0 := (HB.out.cell (World.block_lt_of_cell? w _ hx194_0)).trans hx194_0
            replace hx194_1 := (HB.out.cell (World.block_lt_of_cell? w _ hx194_1)).trans hx194_1
            replace hx194_2 := (HB.out.cell (World.block_lt_of_cell? w _ hx194_2)).trans hx194_2
            replace hx194_3 := (HB.out.cell (World.block_lt_of_cell? w _ hx194_3)).trans hx194_3
            replace p194 := eq_true p194
            replace q194 := eq_true q194
            go_wp2
            repeat (go_quiet (fail); try go_wp2)
            go_loopg [10, 11] kj4 (fun kq v10 v11 w' => ∃ (x10_2 : List Int) (x11_2 : Int), v11 = .int .i64 x11_2 ∧ Aside0 (monikerref4_Walk.l0 kq a2 a3 (wrap64 (a1 + ((rd_T47 l0_0 a1).f3))) x10_2 x11_2 l0_0 = some r) ∧ Aside0 (kq ≤ kj4) ∧ Aside0 (Kd.R (Kd.int .i64) 3 w' w.heap.size (fun _ => True) v10 x10_2) ∧ Aside0 (w'.heap[gb191]? = some (.cells #[(.slice (some ad194) l0_0.length c0_0)] 25 (0, 0))) ∧ Aside0 (Below w.heap.size w w'))
            case atStart => exact ⟨(([] : List Int)), (a1), (by first | rfl | (simp; done) | (simp [*]; done)), H', ⟨Nat.le_refl _⟩, ⟨by first | exact Kd.R_nil _ _ _ _ _ | exact Kd.N_nil _ _ _ _ _ | exact Kd.V_nil _ _ _ _ _ | exact Kd.Q_nil _ _ _ _ _ | exact Kd.S_nil _ _ _ _ _⟩, ⟨by (with_reducible repeat (first | refine blk_drewN ?_ _ | refine blk_drew ?_ | refine blk_alloc ?_ _)); exact BK191.out⟩, ⟨by repeat (first | (with_reducible first | exact HB.out | apply below_alloc | apply pw_below_drewN | apply below_drew1 | refine below_set ?_ GE191.out) | exact HB.out)⟩⟩
            case round =>
              clear H'
              try clear c1
              try clear p1
              try clear q1
              try clear hx1
              try clear c2
              try clear p2
              try clear p6
              try clear c7
              try clear c7b0
              try clear c8
              try clear c8b0
              try clear c10
              try clear c10b0
              try clear c11
              try clear c11b0
              try clear c12
              try clear c12b0
              try clear c15
              try clear c16
              try clear c16b0
              try clear c17
              try clear c17b0
              try clear hcz13_0
              try clear hcz14_0
              try clear hcz18_0
              try clear hcz9_0
              try clear hfz13_0
              try clear hfz14_0
              try clear hfz18_0
              try clear hfz9_0
              try clear hx192_0
              try clear hx192_1
              try clear hx192_2
              try clear hx192_3
              try clear hx193_0
              try clear hx193_1
              try clear hx193_2
              try clear hx193_3
              try clear hx194_0
              try clear hx194_1
              try clear hx194_2
              try clear hx194_3
              try clear p1
              try clear p192
              try clear p193
              try clear p194
              try clear p2
              try clear p6
              try clear q1
              try clear q192
              try clear q193
              try clear q194
              obtain ⟨x10_2, x11_2, rfl, HA, HK2, HO_10, BK191, HB⟩ := hrel
              cases gk with
              | zero => exact absurd HA.out (by simp [monikerref4_Walk.l0])
              | succ k2 =>
                have H := HA.out
                clear HA
                simp only [monikerref4_Walk.l0] at H
                have HC19 := Aside0.mk H
                clear H
                go_upto_region 6 with (fail)
                repeat (go_quiet (fail); go_upto_region 6 with (fail))
                go_cut [61] (fun v61 wc => ∃ (kq : Nat) (x61_18 : Bool), v61 = .bool x61_18 ∧ Aside0 (monikerref4_Walk.j2 kq a2 a3 (wrap64 (a1 + ((rd_T47 l0_0 a1).f3))) x10_2 x11_2 x61_18 l0_0 = some r) ∧ Aside0 (kq ≤ k2) ∧ Aside0 (Kd.R (Kd.int .i64) 3 wc w.heap.size (fun _ => True) u10 x10_2) ∧ Aside0 (wc.heap[gb191]? = some (.cells #[(.slice (some ad194) l0_0.length c0_0)] 25 (0, 0))) ∧ Aside0 (Below w.heap.size w wc))
                case first =>
                  have H := HC19.out
                  clear HC19
                  by_cases c20 : x11_2 < (wrap64 (a1 + ((rd_T47 l0_0 a1).f3)))
                  · rw [if_pos c20] at H
                    have c20b0 : decide (x11_2 < (wrap64 (a1 + ((rd_T47 l0_0 a1).f3)))) = true := decide_eq_true c20
                    clear c20
                    (first | rw [c20b0] | (simp only [i64_w, i32_w]; rw [c20b0]) | skip)
                    have H' := Aside0.mk H
                    clear H
                    obtain ⟨Ao21, co21, eo21⟩ := Kd.R_slice HO_10.out
                    subst eo21
                    go_wp2
                    repeat (go_quiet (fail); try go_wp2)
                    go_meet
                    case rel => exact ⟨_, (((x10_2.length : Int) != a3)), (by first | rfl | (simp; done) | (simp [*]; done)), H', ⟨by have := HJ4.out; have := HK2.out; first | omega | exact Nat.le_refl _⟩, ⟨by (with_reducible repeat (first | apply Kd.R_alloc | apply Kd.R_drewN | apply Kd.R_drew)); exact HO_10.out⟩, ⟨by (with_reducible repeat (first | refine blk_drewN ?_ _ | refine blk_drew ?_ | refine blk_alloc ?_ _)); exact BK191.out⟩, ⟨by repeat (first | (with_reducible first | exact HB.out | apply below_alloc | apply pw_below_drewN | apply below_drew1 | refine below_set ?_ GE191.out) | exact HB.out)⟩⟩
                  · rw [if_neg c20] at H
                    have c20b0 : decide (x11_2 < (wrap64 (a1 + ((rd_T47 l0_0 a1).f3)))) = false := decide_eq_false c20
                    clear c20
                    (first | rw [c20b0] | (simp only [i64_w, i32_w]; rw [c20b0]) | skip)
                    have H' := Aside0.mk H
                    clear H
                    go_wp2
                    repeat (go_quiet (fail); try go_wp2)
                    go_meet
                    case rel => exact ⟨_, (false), (by first | rfl | (simp; done) | (simp [*]; done)), H', ⟨by have := HJ4.out; have := HK2.out; first | omega | exact Nat.le_refl _⟩, ⟨by (with_reducible repeat (first | apply Kd.R_alloc | apply Kd.R_drewN | apply Kd.R_drew)); exact HO_10.out⟩, ⟨by (with_reducible repeat (first | refine blk_drewN ?_ _ | refine blk_drew ?_ | refine blk_alloc ?_ _)); exact BK191.out⟩, ⟨by repeat (first | (with_reducible first | exact HB.out | apply below_alloc | apply pw_below_drewN | apply below_drew1 | refine below_set ?_ GE191.out) | exact HB.out)⟩⟩
                case rest =>
                  clear HC19
                  try clear c1
                  try clear p1
                  try clear q1
                  try clear hx1
                  try clear c2
                  try clear p2
                  try clear p6
                  try clear c7
                  try clear c7b0
                  try clear c8
                  try clear c8b0
                  try clear c10
                  try clear c10b0
                  try clear c11
                  try clear c11b0
                  try clear c12
                  try clear c12b0
                  try clear c15
                  try clear c16
                  try clear c16b0
                  try clear c17
                  try clear c17b0
                  try clear p19
                  try clear q19
                  try clear hx19
                  try clear c20
                  try clear c20b0
                  try clear hcz13_0
                  try clear hcz14_0
                  try clear hcz18_0
                  try clear hcz9_0
                  try clear hfz13_0
                  try clear hfz14_0
                  try clear hfz18_0
                  try clear hfz9_0
                  try clear hx192_0
                  try clear hx192_1
                  try clear hx192_2
                  try clear hx192_3
                  try clear hx193_0
                  try clear hx193_1
                  try clear hx193_2
                  try clear hx193_3
                  try clear hx194_0
                  try clear hx194_1
                  try clear hx194_2
                  try clear hx194_3
                  try clear p1
                  try clear p192
                  try clear p193
                  try clear p194
                  try clear p2
                  try clear p6
                  try clear q1
                  try clear q192
                  try clear q193
                  try clear q194
                  obtain ⟨kq, x61_18, rfl, HA, HJ18, HO_10, BK191, HB⟩ := hcut
                  cases kq with
                  | zero => exact absurd HA.out (by simp [monikerref4_Walk.j2])
                  | succ kj18 =>
                    have H := HA.out
                    clear HA
                    simp only [monikerref4_Walk.j2] at H
                    by_cases c22 : x61_18 = true
                    · subst c22
                      have H1 : (if x10_2.length < 17592186044416 then ((some (x10_2 ++ [x11_2] : List Int)).bind fun y195 => (if (y195.length : Int) = a3 then (some y195) else (if 0 ≤ (IntKind.u64.wrap (Go.bits .and .i64 x11_2 63)) then (if (Go.bits .and .u64 (shr .u64 a2 (IntKind.u64.wrap (Go.bits .and .i64 x11_2 63))) 1) = 0 then (monikerref4_Walk.l0 kj18 a2 a3 (wrap64 (a1 + ((rd_T47 l0_0 a1).f3))) y195 (wrap64 (x11_2 + 1)) l0_0) else (if 0 ≤ x11_2 then (if x11_2 < (l0_0.length : Int) then (if ((rd_T47 l0_0 x11_2).f3) < 1 then (some y195) else (if ((rd_T47 l0_0 x11_2).f3) > (wrap64 ((wrap64 (a1 + ((rd_T47 l0_0 a1).f3))) - x11_2)) then (some y195) else (monikerref4_Walk.l0 kj18 a2 a3 (wrap64 (a1 + ((rd_T47 l0_0 a1).f3))) y195 (wrap64 (x11_2 + ((rd_T47 l0_0 x11_2).f3))) l0_0))) else (none)) else (none))) else (none)))) else (none)) = some r := by rw [if_pos rfl] at H; exact H
                      clear H
                      have H := H1
                      clear H1
                      by_cases c23 : x10_2.length < 17592186044416
                      · rw [if_pos c23] at H
                        have LMc23 := Aside0.mk c23
                        clear c23
                        obtain ⟨y195, hy195⟩ : ∃ y_ : List Int, y_ = (x10_2 ++ [x11_2]) := ⟨_, rfl⟩
                        replace H : (if (y195.length : Int) = a3 then (some y195) else (if 0 ≤ (IntKind.u64.wrap (Go.bits .and .i64 x11_2 63)) then (if (Go.bits .and .u64 (shr .u64 a2 (IntKind.u64.wrap (Go.bits .and .i64 x11_2 63))) 1) = 0 then (monikerref4_Walk.l0 kj18 a2 a3 (wrap64 (a1 + ((rd_T47 l0_0 a1).f3))) y195 (wrap64 (x11_2 + 1)) l0_0) else (if 0 ≤ x11_2 then (if x11_2 < (l0_0.length : Int) then (if ((rd_T47 l0_0 x11_2).f3) < 1 then (some y195) else (if ((rd_T47 l0_0 x11_2).f3) > (wrap64 ((wrap64 (a1 + ((rd_T47 l0_0 a1).f3))) - x11_2)) then (some y195) else (monikerref4_Walk.l0 kj18 a2 a3 (wrap64 (a1 + ((rd_T47 l0_0 a1).f3))) y195 (wrap64 (x11_2 + ((rd_T47 l0_0 x11_2).f3))) l0_0))) else (none)) else (none))) else (none))) = some r := by first | (rw [hy195]; with_reducible exact H) | (have H2_ := (Option.bind_some _ _).symm.trans H; rw [hy195]; with_reducible exact H2_) | (have H2_ := (Option.bind_some _ _).symm.trans H; with_reducible exact H2_) | with_reducible exact H | (rw [hy195]; exact H) | exact H
                        have Ny195 := Aside0.mk hy195
                        clear hy195
                        by_cases c24 : (y195.length : Int) = a3
                        · rw [if_pos c24] at H
                          have c24b0 : ((y195.length : Int) == a3) = true := beq_iff_eq.mpr c24
                          have c24b1 : ((y195.length : Int) != a3) = false := bne_eq_false_iff_eq.mpr c24
                          clear c24
                          obtain rfl := Option.some.inj H
                          go_wp2_with (first | ((with_reducible refine gate_builtin (b := .append) (xs := #[.tmp 62, .tmp 64]) rfl ?_); (try (refine gate_guard (by rfl) ?_; dsimp only)); at_builtin; refine Kd.R_append (Kd.int .i64) (w0 := w) w.heap.size rfl (.tmp 62) (.tmp 64) 33 3 (.int .i64 0) 8 rfl Try.underlying33 info3 rfl (by decide) (by omega) u10 x10_2 x11_2 [.int .i64 x11_2] (fun _ => True) (fun _ => False) rfl rfl ?aP (fun _ hk => hk.elim) ?aF ?aO ?aB ?aS ?aL ?_; (case aP => exact rfl); (case aB => exact (by repeat (first | (with_reducible first | exact HB.out | apply below_alloc | apply pw_below_drewN | apply below_drew1 | refine below_set ?_ GE191.out) | exact HB.out))); (case aF => exact (fun _ _ => trivial)); (case aO => exact (by (with_reducible repeat (first | apply Kd.R_alloc | apply Kd.R_drewN | apply Kd.R_drew)); exact HO_10.out)); (case aS => exact (below_size (by repeat (first | (with_reducible first | exact HB.out | apply below_alloc | apply pw_below_drewN | apply below_drew1 | refine below_set ?_ GE191.out) | exact HB.out)))); (case aL => have := LMc23.out; omega); intro v196 w25 ho hb hg hat; rw [← Ny195.out] at ho; have n0_ := Aside0.mk (blk_grown (g := gb191) (o := .cells #[.slice (some ad194) l0_0.length c0_0] 25 (0, 0)) (by (with_reducible repeat (first | refine blk_drewN ?_ _ | refine blk_drew ?_ | refine blk_alloc ?_ _)); exact BK191.out) hg (Kd.R_ne HO_10.out BK191.out (by decide))); have n1_ := Aside0.mk (hb); have n2_ := Aside0.mk (ho); clear BK191; clear HB; clear HO_10; have BK191 := n0_; have HB := n1_; have HO197 := n2_; clear n0_ n1_ n2_; clear ho hb hg hat; obtain ⟨Ao26, co26, eo26⟩ := Kd.R_slice HO197.out; subst eo26))
                          repeat (go_quiet (first | ((with_reducible refine gate_builtin (b := .append) (xs := #[.tmp 62, .tmp 64]) rfl ?_); (try (refine gate_guard (by rfl) ?_; dsimp only)); at_builtin; refine Kd.R_append (Kd.int .i64) (w0 := w) w.heap.size rfl (.tmp 62) (.tmp 64) 33 3 (.int .i64 0) 8 rfl Try.underlying33 info3 rfl (by decide) (by omega) u10 x10_2 x11_2 [.int .i64 x11_2] (fun _ => True) (fun _ => False) rfl rfl ?aP (fun _ hk => hk.elim) ?aF ?aO ?aB ?aS ?aL ?_; (case aP => exact rfl); (case aB => exact (by repeat (first | (with_reducible first | exact HB.out | apply below_alloc | apply pw_below_drewN | apply below_drew1 | refine below_set ?_ GE191.out) | exact HB.out))); (case aF => exact (fun _ _ => trivial)); (case aO => exact (by (with_reducible repeat (first | apply Kd.R_alloc | apply Kd.R_drewN | apply Kd.R_drew)); exact HO_10.out)); (case aS => exact (below_size (by repeat (first | (with_reducible first | exact HB.out | apply below_alloc | apply pw_below_drewN | apply below_drew1 | refine below_set ?_ GE191.out) | exact HB.out)))); (case aL => have := LMc23.out; omega); intro v196 w25 ho hb hg hat; rw [← Ny195.out] at ho; have n0_ := Aside0.mk (blk_grown (g := gb191) (o := .cells #[.slice (some ad194) l0_0.length c0_0] 25 (0, 0)) (by (with_reducible repeat (first | refine blk_drewN ?_ _ | refine blk_drew ?_ | refine blk_alloc ?_ _)); exact BK191.out) hg (Kd.R_ne HO_10.out BK191.out (by decide))); have n1_ := Aside0.mk (hb); have n2_ := Aside0.mk (ho); clear BK191; clear HB; clear HO_10; have BK191 := n0_; have HB := n1_; have HO197 := n2_; clear n0_ n1_ n2_; clear ho hb hg hat; obtain ⟨Ao26, co26, eo26⟩ := Kd.R_slice HO197.out; subst eo26)); try go_wp2_with (first | ((with_reducible refine gate_builtin (b := .append) (xs := #[.tmp 62, .tmp 64]) rfl ?_); (try (refine gate_guard (by rfl) ?_; dsimp only)); at_builtin; refine Kd.R_append (Kd.int .i64) (w0 := w) w.heap.size rfl (.tmp 62) (.tmp 64) 33 3 (.int .i64 0) 8 rfl Try.underlying33 info3 rfl (by decide) (by omega) u10 x10_2 x11_2 [.int .i64 x11_2] (fun _ => True) (fun _ => False) rfl rfl ?aP (fun _ hk => hk.elim) ?aF ?aO ?aB ?aS ?aL ?_; (case aP => exact rfl); (case aB => exact (by repeat (first | (with_reducible first | exact HB.out | apply below_alloc | apply pw_below_drewN | apply below_drew1 | refine below_set ?_ GE191.out) | exact HB.out))); (case aF => exact (fun _ _ => trivial)); (case aO => exact (by (with_reducible repeat (first | apply Kd.R_alloc | apply Kd.R_drewN | apply Kd.R_drew)); exact HO_10.out)); (case aS => exact (below_size (by repeat (first | (with_reducible first | exact HB.out | apply below_alloc | apply pw_below_drewN | apply below_drew1 | refine below_set ?_ GE191.out) | exact HB.out)))); (case aL => have := LMc23.out; omega); intro v196 w25 ho hb hg hat; rw [← Ny195.out] at ho; have n0_ := Aside0.mk (blk_grown (g := gb191) (o := .cells #[.slice (some ad194) l0_0.length c0_0] 25 (0, 0)) (by (with_reducible repeat (first | refine blk_drewN ?_ _ | refine blk_drew ?_ | refine blk_alloc ?_ _)); exact BK191.out) hg (Kd.R_ne HO_10.out BK191.out (by decide))); have n1_ := Aside0.mk (hb); have n2_ := Aside0.mk (ho); clear BK191; clear HB; clear HO_10; have BK191 := n0_; have HB := n1_; have HO197 := n2_; clear n0_ n1_ n2_; clear ho hb hg hat; obtain ⟨Ao26, co26, eo26⟩ := Kd.R_slice HO197.out; subst eo26)))
                          go_ret
                          exact ⟨_, by first | rfl | (simp [errW_none, errW_some] <;> rfl) | (simp [*, errW_none, errW_some] <;> rfl), by (with_reducible repeat (first | apply Kd.R_alloc | apply Kd.R_drewN | apply Kd.R_drew)); exact HO197.out, by repeat (first | (with_reducible first | exact HB.out | apply below_alloc | apply pw_below_drewN | apply below_drew1 | refine below_set ?_ GE191.out) | exact HB.out)⟩
                        · rw [if_neg c24] at H
                          have c24b0 : ((y195.length : Int) == a3) = false := beq_eq_false_iff_ne.mpr c24
                          have c24b1 : ((y195.length : Int) != a3) = true := bne_iff_ne.mpr c24
                          obtain ⟨ji27, hji27⟩ : ∃ j_ : Int, (IntKind.u64.wrap (Go.bits .and .i64 x11_2 63)) = j_ := ⟨_, rfl⟩
                          replace H : (if 0 ≤ (ji27) then (if (Go.bits .and .u64 (shr .u64 a2 (ji27)) 1) = 0 then (monikerref4_Walk.l0 kj18 a2 a3 (wrap64 (a1 + ((rd_T47 l0_0 a1).f3))) y195 (wrap64 (x11_2 + 1)) l0_0) else (if 0 ≤ x11_2 then (if x11_2 < (l0_0.length : Int) then (if ((rd_T47 l0_0 x11_2).f3) < 1 then (some y195) else (if ((rd_T47 l0_0 x11_2).f3) > (wrap64 ((wrap64 (a1 + ((rd_T47 l0_0 a1).f3))) - x11_2)) then (some y195) else (monikerref4_Walk.l0 kj18 a2 a3 (wrap64 (a1 + ((rd_T47 l0_0 a1).f3))) y195 (wrap64 (x11_2 + ((rd_T47 l0_0 x11_2).f3))) l0_0))) else (none)) else (none))) else (none)) = some r := by first | (rw [hji27] at H; exact H) | (simp only [hji27] at H ⊢; exact H)
                          by_cases c28 : 0 ≤ (ji27)
                          · rw [if_pos c28] at H
                            have c28b0 := eq_true c28
                            have c28b1 : decide (0 ≤ (ji27)) = true := decide_eq_true c28
                            clear c28
                            obtain ⟨ji29, hji29⟩ : ∃ j_ : Int, (shr .u64 a2 (ji27)) = j_ := ⟨_, rfl⟩
                            replace H : (if (Go.bits .and .u64 (ji29) 1) = 0 then (monikerref4_Walk.l0 kj18 a2 a3 (wrap64 (a1 + ((rd_T47 l0_0 a1).f3))) y195 (wrap64 (x11_2 + 1)) l0_0) else (if 0 ≤ x11_2 then (if x11_2 < (l0_0.length : Int) then (if ((rd_T47 l0_0 x11_2).f3) < 1 then (some y195) else (if ((rd_T47 l0_0 x11_2).f3) > (wrap64 ((wrap64 (a1 + ((rd_T47 l0_0 a1).f3))) - x11_2)) then (some y195) else (monikerref4_Walk.l0 kj18 a2 a3 (wrap64 (a1 + ((rd_T47 l0_0 a1).f3))) y195 (wrap64 (x11_2 + ((rd_T47 l0_0 x11_2).f3))) l0_0))) else (none)) else (none))) = some r := by first | (rw [hji29] at H; exact H) | (simp only [hji29] at H ⊢; exact H)
                            have hji29_ : (a2 / 2 ^ min (ji27).toNat 64) = ji29 := hji29
                            have hji29z : (ji27) ≤ 64 → (a2 / 2 ^ (ji27).toNat) = ji29 := shr_small hji29
                            by_cases c30 : (Go.bits .and .u64 (ji29) 1) = 0
                            · rw [if_pos c30] at H
                              have c30b0 : ((Go.bits .and .u64 (ji29) 1) == 0) = true := beq_iff_eq.mpr c30
                              have c30b1 : ((Go.bits .and .u64 (ji29) 1) != 0) = false := bne_eq_false_iff_eq.mpr c30
                              clear c30
                              have H' := Aside0.mk H
                              clear H
                              go_wp2_with (first | ((with_reducible refine gate_builtin (b := .append) (xs := #[.tmp 62, .tmp 64]) rfl ?_); (try (refine gate_guard (by rfl) ?_; dsimp only)); at_builtin; refine Kd.R_append (Kd.int .i64) (w0 := w) w.heap.size rfl (.tmp 62) (.tmp 64) 33 3 (.int .i64 0) 8 rfl Try.underlying33 info3 rfl (by decide) (by omega) u10 x10_2 x11_2 [.int .i64 x11_2] (fun _ => True) (fun _ => False) rfl rfl ?aP (fun _ hk => hk.elim) ?aF ?aO ?aB ?aS ?aL ?_; (case aP => exact rfl); (case aB => exact (by repeat (first | (with_reducible first | exact HB.out | apply below_alloc | apply pw_below_drewN | apply below_drew1 | refine below_set ?_ GE191.out) | exact HB.out))); (case aF => exact (fun _ _ => trivial)); (case aO => exact (by (with_reducible repeat (first | apply Kd.R_alloc | apply Kd.R_drewN | apply Kd.R_drew)); exact HO_10.out)); (case aS => exact (below_size (by repeat (first | (with_reducible first | exact HB.out | apply below_alloc | apply pw_below_drewN | apply below_drew1 | refine below_set ?_ GE191.out) | exact HB.out)))); (case aL => have := LMc23.out; omega); intro v196 w31 ho hb hg hat; rw [← Ny195.out] at ho; have n0_ := Aside0.mk (blk_grown (g := gb191) (o := .cells #[.slice (some ad194) l0_0.length c0_0] 25 (0, 0)) (by (with_reducible repeat (first | refine blk_drewN ?_ _ | refine blk_drew ?_ | refine blk_alloc ?_ _)); exact BK191.out) hg (Kd.R_ne HO_10.out BK191.out (by decide))); have n1_ := Aside0.mk (hb); have n2_ := Aside0.mk (ho); clear BK191; clear HB; clear HO_10; have BK191 := n0_; have HB := n1_; have HO197 := n2_; clear n0_ n1_ n2_; clear ho hb hg hat; obtain ⟨Ao32, co32, eo32⟩ := Kd.R_slice HO197.out; subst eo32))
                              repeat (go_quiet (first | ((with_reducible refine gate_builtin (b := .append) (xs := #[.tmp 62, .tmp 64]) rfl ?_); (try (refine gate_guard (by rfl) ?_; dsimp only)); at_builtin; refine Kd.R_append (Kd.int .i64) (w0 := w) w.heap.size rfl (.tmp 62) (.tmp 64) 33 3 (.int .i64 0) 8 rfl Try.underlying33 info3 rfl (by decide) (by omega) u10 x10_2 x11_2 [.int .i64 x11_2] (fun _ => True) (fun _ => False) rfl rfl ?aP (fun _ hk => hk.elim) ?aF ?aO ?aB ?aS ?aL ?_; (case aP => exact rfl); (case aB => exact (by repeat (first | (with_reducible first | exact HB.out | apply below_alloc | apply pw_below_drewN | apply below_drew1 | refine below_set ?_ GE191.out) | exact HB.out))); (case aF => exact (fun _ _ => trivial)); (case aO => exact (by (with_reducible repeat (first | apply Kd.R_alloc | apply Kd.R_drewN | apply Kd.R_drew)); exact HO_10.out)); (case aS => exact (below_size (by repeat (first | (with_reducible first | exact HB.out | apply below_alloc | apply pw_below_drewN | apply below_drew1 | refine below_set ?_ GE191.out) | exact HB.out)))); (case aL => have := LMc23.out; omega); intro v196 w31 ho hb hg hat; rw [← Ny195.out] at ho; have n0_ := Aside0.mk (blk_grown (g := gb191) (o := .cells #[.slice (some ad194) l0_0.length c0_0] 25 (0, 0)) (by (with_reducible repeat (first | refine blk_drewN ?_ _ | refine blk_drew ?_ | refine blk_alloc ?_ _)); exact BK191.out) hg (Kd.R_ne HO_10.out BK191.out (by decide))); have n1_ := Aside0.mk (hb); have n2_ := Aside0.mk (ho); clear BK191; clear HB; clear HO_10; have BK191 := n0_; have HB := n1_; have HO197 := n2_; clear n0_ n1_ n2_; clear ho hb hg hat; obtain ⟨Ao32, co32, eo32⟩ := Kd.R_slice HO197.out; subst eo32)); try go_wp2_with (first | ((with_reducible refine gate_builtin (b := .append) (xs := #[.tmp 62, .tmp 64]) rfl ?_); (try (refine gate_guard (by rfl) ?_; dsimp only)); at_builtin; refine Kd.R_append (Kd.int .i64) (w0 := w) w.heap.size rfl (.tmp 62) (.tmp 64) 33 3 (.int .i64 0) 8 rfl Try.underlying33 info3 rfl (by decide) (by omega) u10 x10_2 x11_2 [.int .i64 x11_2] (fun _ => True) (fun _ => False) rfl rfl ?aP (fun _ hk => hk.elim) ?aF ?aO ?aB ?aS ?aL ?_; (case aP => exact rfl); (case aB => exact (by repeat (first | (with_reducible first | exact HB.out | apply below_alloc | apply pw_below_drewN | apply below_drew1 | refine below_set ?_ GE191.out) | exact HB.out))); (case aF => exact (fun _ _ => trivial)); (case aO => exact (by (with_reducible repeat (first | apply Kd.R_alloc | apply Kd.R_drewN | apply Kd.R_drew)); exact HO_10.out)); (case aS => exact (below_size (by repeat (first | (with_reducible first | exact HB.out | apply below_alloc | apply pw_below_drewN | apply below_drew1 | refine below_set ?_ GE191.out) | exact HB.out)))); (case aL => have := LMc23.out; omega); intro v196 w31 ho hb hg hat; rw [← Ny195.out] at ho; have n0_ := Aside0.mk (blk_grown (g := gb191) (o := .cells #[.slice (some ad194) l0_0.length c0_0] 25 (0, 0)) (by (with_reducible repeat (first | refine blk_drewN ?_ _ | refine blk_drew ?_ | refine blk_alloc ?_ _)); exact BK191.out) hg (Kd.R_ne HO_10.out BK191.out (by decide))); have n1_ := Aside0.mk (hb); have n2_ := Aside0.mk (ho); clear BK191; clear HB; clear HO_10; have BK191 := n0_; have HB := n1_; have HO197 := n2_; clear n0_ n1_ n2_; clear ho hb hg hat; obtain ⟨Ao32, co32, eo32⟩ := Kd.R_slice HO197.out; subst eo32)))
                              go_roundg kj18
                              case measure => have := HJ4.out; have := HK2.out; have := HJ18.out; omega
                              case rel => exact ⟨(y195), (wrap64 (x11_2 + 1)), (by first | rfl | (simp; done) | (simp [*]; done)), H', ⟨by have := HJ4.out; have := HK2.out; have := HJ18.out; omega⟩, ⟨by (with_reducible repeat (first | apply Kd.R_alloc | apply Kd.R_drewN | apply Kd.R_drew)); exact HO197.out⟩, ⟨by (with_reducible repeat (first | refine blk_drewN ?_ _ | refine blk_drew ?_ | refine blk_alloc ?_ _)); exact BK191.out⟩, ⟨by repeat (first | (with_reducible first | exact HB.out | apply below_alloc | apply pw_below_drewN | apply below_drew1 | refine below_set ?_ GE191.out) | exact HB.out)⟩⟩
                            · rw [if_neg c30] at H
                              have c30b0 : ((Go.bits .and .u64 (ji29) 1) == 0) = false := beq_eq_false_iff_ne.mpr c30
                              have c30b1 : ((Go.bits .and .u64 (ji29) 1) != 0) = true := bne_iff_ne.mpr c30
                              by_cases c33 : 0 ≤ x11_2
                              · rw [if_pos c33] at H
                                have c33b0 : decide (0 ≤ x11_2) = true := decide_eq_true c33
                                clear c33
                                by_cases c34 : x11_2 < (l0_0.length : Int)
                                · rw [if_pos c34] at H
                                  have c34b0 : decide (x11_2 < (l0_0.length : Int)) = true := decide_eq_true c34
                                  clear c34
                                  by_cases c35 : ((rd_T47 l0_0 x11_2).f3) < 1
                                  · rw [if_pos c35] at H
                                    have c35b0 : decide (((rd_T47 l0_0 x11_2).f3) < 1) = true := decide_eq_true c35
                                    clear c35
                                    obtain rfl := Option.some.inj H
                                    go_wp2_with (first | ((with_reducible refine gate_builtin (b := .append) (xs := #[.tmp 62, .tmp 64]) rfl ?_); (try (refine gate_guard (by rfl) ?_; dsimp only)); at_builtin; refine Kd.R_append (Kd.int .i64) (w0 := w) w.heap.size rfl (.tmp 62) (.tmp 64) 33 3 (.int .i64 0) 8 rfl Try.underlying33 info3 rfl (by decide) (by omega) u10 x10_2 x11_2 [.int .i64 x11_2] (fun _ => True) (fun _ => False) rfl rfl ?aP (fun _ hk => hk.elim) ?aF ?aO ?aB ?aS ?aL ?_; (case aP => exact rfl); (case aB => exact (by repeat (first | (with_reducible first | exact HB.out | apply below_alloc | apply pw_below_drewN | apply below_drew1 | refine below_set ?_ GE191.out) | exact HB.out))); (case aF => exact (fun _ _ => trivial)); (case aO => exact (by (with_reducible repeat (first | apply Kd.R_alloc | apply Kd.R_drewN | apply Kd.R_drew)); exact HO_10.out)); (case aS => exact (below_size (by repeat (first | (with_reducible first | exact HB.out | apply below_alloc | apply pw_below_drewN | apply below_drew1 | refine below_set ?_ GE191.out) | exact HB.out)))); (case aL => have := LMc23.out; omega); intro v196 w36 ho hb hg hat; rw [← Ny195.out] at ho; have n0_ := Aside0.mk (blk_grown (g := gb191) (o := .cells #[.slice (some ad194) l0_0.length c0_0] 25 (0, 0)) (by (with_reducible repeat (first | refine blk_drewN ?_ _ | refine blk_drew ?_ | refine blk_alloc ?_ _)); exact BK191.out) hg (Kd.R_ne HO_10.out BK191.out (by decide))); have n1_ := Aside0.mk (hb); have n2_ := Aside0.mk (ho); clear BK191; clear HB; clear HO_10; have BK191 := n0_; have HB := n1_; have HO197 := n2_; clear n0_ n1_ n2_; clear ho hb hg hat; obtain ⟨Ao37, co37, eo37⟩ := Kd.R_slice HO197.out; subst eo37; have hcz38_0 : w36.cell? ⟨gb191, 0, none⟩ = some (.slice (some ad194) l0_0.length c0_0) := (blk_cell BK191.out 0).trans rfl; have hfz38_0 := blk_frozen BK191.out 0; have p198 : 0 ≤ (x11_2 : Int) := of_decide_eq_true (by first | (with_reducible assumption) | assumption); have q198 : x11_2 < (l0_0.length : Int) := of_decide_eq_true (by first | (with_reducible assumption) | assumption); obtain ⟨ad198, e198, hx198_0, hx198_1, hx198_2, hx198_3⟩ := at_T47 HR0_0.out x11_2 p198 q198; obtain rfl : ad194 = ad198 := (by injection e198); replace hx198_0 := (HB.out.cell (World.block_lt_of_cell? w _ hx198_0)).trans hx198_0; replace hx198_1 := (HB.out.cell (World.block_lt_of_cell? w _ hx198_1)).trans hx198_1; replace hx198_2 := (HB.out.cell (World.block_lt_of_cell? w _ hx198_2)).trans hx198_2; replace hx198_3 := (HB.out.cell (World.block_lt_of_cell? w _ hx198_3)).trans hx198_3; replace p198 := eq_true p198; replace q198 := eq_true q198))
                                    repeat (go_quiet (first | ((with_reducible refine gate_builtin (b := .append) (xs := #[.tmp 62, .tmp 64]) rfl ?_); (try (refine gate_guard (by rfl) ?_; dsimp only)); at_builtin; refine Kd.R_append (Kd.int .i64) (w0 := w) w.heap.size rfl (.tmp 62) (.tmp 64) 33 3 (.int .i64 0) 8 rfl Try.underlying33 info3 rfl (by decide) (by omega) u10 x10_2 x11_2 [.int .i64 x11_2] (fun _ => True) (fun _ => False) rfl rfl ?aP (fun _ hk => hk.elim) ?aF ?aO ?aB ?aS ?aL ?_; (case aP => exact rfl); (case aB => exact (by repeat (first | (with_reducible first | exact HB.out | apply below_alloc | apply pw_below_drewN | apply below_drew1 | refine below_set ?_ GE191.out) | exact HB.out))); (case aF => exact (fun _ _ => trivial)); (case aO => exact (by (with_reducible repeat (first | apply Kd.R_alloc | apply Kd.R_drewN | apply Kd.R_drew)); exact HO_10.out)); (case aS => exact (below_size (by repeat (first | (with_reducible first | exact HB.out | apply below_alloc | apply pw_below_drewN | apply below_drew1 | refine below_set ?_ GE191.out) | exact HB.out)))); (case aL => have := LMc23.out; omega); intro v196 w36 ho hb hg hat; rw [← Ny195.out] at ho; have n0_ := Aside0.mk (blk_grown (g := gb191) (o := .cells #[.slice (some ad194) l0_0.length c0_0] 25 (0, 0)) (by (with_reducible repeat (first | refine blk_drewN ?_ _ | refine blk_drew ?_ | refine blk_alloc ?_ _)); exact BK191.out) hg (Kd.R_ne HO_10.out BK191.out (by decide))); have n1_ := Aside0.mk (hb); have n2_ := Aside0.mk (ho); clear BK191; clear HB; clear HO_10; have BK191 := n0_; have HB := n1_; have HO197 := n2_; clear n0_ n1_ n2_; clear ho hb hg hat; obtain ⟨Ao37, co37, eo37⟩ := Kd.R_slice HO197.out; subst eo37; have hcz38_0 : w36.cell? ⟨gb191, 0, none⟩ = some (.slice (some ad194) l0_0.length c0_0) := (blk_cell BK191.out 0).trans rfl; have hfz38_0 := blk_frozen BK191.out 0; have p198 : 0 ≤ (x11_2 : Int) := of_decide_eq_true (by first | (with_reducible assumption) | assumption); have q198 : x11_2 < (l0_0.length : Int) := of_decide_eq_true (by first | (with_reducible assumption) | assumption); obtain ⟨ad198, e198, hx198_0, hx198_1, hx198_2, hx198_3⟩ := at_T47 HR0_0.out x11_2 p198 q198; obtain rfl : ad194 = ad198 := (by injection e198); replace hx198_0 := (HB.out.cell (World.block_lt_of_cell? w _ hx198_0)).trans hx198_0; replace hx198_1 := (HB.out.cell (World.block_lt_of_cell? w _ hx198_1)).trans hx198_1; replace hx198_2 := (HB.out.cell (World.block_lt_of_cell? w _ hx198_2)).trans hx198_2; replace hx198_3 := (HB.out.cell (World.block_lt_of_cell? w _ hx198_3)).trans hx198_3; replace p198 := eq_true p198; replace q198 := eq_true q198)); try go_wp2_with (first | ((with_reducible refine gate_builtin (b := .append) (xs := #[.tmp 62, .tmp 64]) rfl ?_); (try (refine gate_guard (by rfl) ?_; dsimp only)); at_builtin; refine Kd.R_append (Kd.int .i64) (w0 := w) w.heap.size rfl (.tmp 62) (.tmp 64) 33 3 (.int .i64 0) 8 rfl Try.underlying33 info3 rfl (by decide) (by omega) u10 x10_2 x11_2 [.int .i64 x11_2] (fun _ => True) (fun _ => False) rfl rfl ?aP (fun _ hk => hk.elim) ?aF ?aO ?aB ?aS ?aL ?_; (case aP => exact rfl); (case aB => exact (by repeat (first | (with_reducible first | exact HB.out | apply below_alloc | apply pw_below_drewN | apply below_drew1 | refine below_set ?_ GE191.out) | exact HB.out))); (case aF => exact (fun _ _ => trivial)); (case aO => exact (by (with_reducible repeat (first | apply Kd.R_alloc | apply Kd.R_drewN | apply Kd.R_drew)); exact HO_10.out)); (case aS => exact (below_size (by repeat (first | (with_reducible first | exact HB.out | apply below_alloc | apply pw_below_drewN | apply below_drew1 | refine below_set ?_ GE191.out) | exact HB.out)))); (case aL => have := LMc23.out; omega); intro v196 w36 ho hb hg hat; rw [← Ny195.out] at ho; have n0_ := Aside0.mk (blk_grown (g := gb191) (o := .cells #[.slice (some ad194) l0_0.length c0_0] 25 (0, 0)) (by (with_reducible repeat (first | refine blk_drewN ?_ _ | refine blk_drew ?_ | refine blk_alloc ?_ _)); exact BK191.out) hg (Kd.R_ne HO_10.out BK191.out (by decide))); have n1_ := Aside0.mk (hb); have n2_ := Aside0.mk (ho); clear BK191; clear HB; clear HO_10; have BK191 := n0_; have HB := n1_; have HO197 := n2_; clear n0_ n1_ n2_; clear ho hb hg hat; obtain ⟨Ao37, co37, eo37⟩ := Kd.R_slice HO197.out; subst eo37; have hcz38_0 : w36.cell? ⟨gb191, 0, none⟩ = some (.slice (some ad194) l0_0.length c0_0) := (blk_cell BK191.out 0).trans rfl; have hfz38_0 := blk_frozen BK191.out 0; have p198 : 0 ≤ (x11_2 : Int) := of_decide_eq_true (by first | (with_reducible assumption) | assumption); have q198 : x11_2 < (l0_0.length : Int) := of_decide_eq_true (by first | (with_reducible assumption) | assumption); obtain ⟨ad198, e198, hx198_0, hx198_1, hx198_2, hx198_3⟩ := at_T47 HR0_0.out x11_2 p198 q198; obtain rfl : ad194 = ad198 := (by injection e198); replace hx198_0 := (HB.out.cell (World.block_lt_of_cell? w _ hx198_0)).trans hx198_0; replace hx198_1 := (HB.out.cell (World.block_lt_of_cell? w _ hx198_1)).trans hx198_1; replace hx198_2 := (HB.out.cell (World.block_lt_of_cell? w _ hx198_2)).trans hx198_2; replace hx198_3 := (HB.out.cell (World.block_lt_of_cell? w _ hx198_3)).trans hx198_3; replace p198 := eq_true p198; replace q198 := eq_true q198)))
                                    go_ret
                                    exact ⟨_, by first | rfl | (simp [errW_none, errW_some] <;> rfl) | (simp only [← hji27, ← hji29]; first | rfl | (simp [errW_none, errW_some] <;> rfl)) | (simp [*, errW_none, errW_some] <;> rfl), by (with_reducible repeat (first | apply Kd.R_alloc | apply Kd.R_drewN | apply Kd.R_drew)); exact HO197.out, by repeat (first | (with_reducible first | exact HB.out | apply below_alloc | apply pw_below_drewN | apply below_drew1 | refine below_set ?_ GE191.out) | exact HB.out)⟩
                                  · rw [if_neg c35] at H
                                    have c35b0 : decide (((rd_T47 l0_0 x11_2).f3) < 1) = false := decide_eq_false c35
                                    clear c35
                                    by_cases c39 : ((rd_T47 l0_0 x11_2).f3) > (wrap64 ((wrap64 (a1 + ((rd_T47 l0_0 a1).f3))) - x11_2))
                                    · rw [if_pos c39] at H
                                      have c39b0 : decide ((wrap64 ((wrap64 (a1 + ((rd_T47 l0_0 a1).f3))) - x11_2)) < ((rd_T47 l0_0 x11_2).f3)) = true := decide_eq_true c39
                                      clear c39
                                      obtain rfl := Option.some.inj H
                                      go_wp2_with (first | ((with_reducible refine gate_builtin (b := .append) (xs := #[.tmp 62, .tmp 64]) rfl ?_); (try (refine gate_guard (by rfl) ?_; dsimp only)); at_builtin; refine Kd.R_append (Kd.int .i64) (w0 := w) w.heap.size rfl (.tmp 62) (.tmp 64) 33 3 (.int .i64 0) 8 rfl Try.underlying33 info3 rfl (by decide) (by omega) u10 x10_2 x11_2 [.int .i64 x11_2] (fun _ => True) (fun _ => False) rfl rfl ?aP (fun _ hk => hk.elim) ?aF ?aO ?aB ?aS ?aL ?_; (case aP => exact rfl); (case aB => exact (by repeat (first | (with_reducible first | exact HB.out | apply below_alloc | apply pw_below_drewN | apply below_drew1 | refine below_set ?_ GE191.out) | exact HB.out))); (case aF => exact (fun _ _ => trivial)); (case aO => exact (by (with_reducible repeat (first | apply Kd.R_alloc | apply Kd.R_drewN | apply Kd.R_drew)); exact HO_10.out)); (case aS => exact (below_size (by repeat (first | (with_reducible first | exact HB.out | apply below_alloc | apply pw_below_drewN | apply below_drew1 | refine below_set ?_ GE191.out) | exact HB.out)))); (case aL => have := LMc23.out; omega); intro v196 w40 ho hb hg hat; rw [← Ny195.out] at ho; have n0_ := Aside0.mk (blk_grown (g := gb191) (o := .cells #[.slice (some ad194) l0_0.length c0_0] 25 (0, 0)) (by (with_reducible repeat (first | refine blk_drewN ?_ _ | refine blk_drew ?_ | refine blk_alloc ?_ _)); exact BK191.out) hg (Kd.R_ne HO_10.out BK191.out (by decide))); have n1_ := Aside0.mk (hb); have n2_ := Aside0.mk (ho); clear BK191; clear HB; clear HO_10; have BK191 := n0_; have HB := n1_; have HO197 := n2_; clear n0_ n1_ n2_; clear ho hb hg hat; obtain ⟨Ao41, co41, eo41⟩ := Kd.R_slice HO197.out; subst eo41; have hcz42_0 : w40.cell? ⟨gb191, 0, none⟩ = some (.slice (some ad194) l0_0.length c0_0) := (blk_cell BK191.out 0).trans rfl; have hfz42_0 := blk_frozen BK191.out 0; have p198 : 0 ≤ (x11_2 : Int) := of_decide_eq_true (by first | (with_reducible assumption) | assumption); have q198 : x11_2 < (l0_0.length : Int) := of_decide_eq_true (by first | (with_reducible assumption) | assumption); obtain ⟨ad198, e198, hx198_0, hx198_1, hx198_2, hx198_3⟩ := at_T47 HR0_0.out x11_2 p198 q198; obtain rfl : ad194 = ad198 := (by injection e198); replace hx198_0 := (HB.out.cell (World.block_lt_of_cell? w _ hx198_0)).trans hx198_0; replace hx198_1 := (HB.out.cell (World.block_lt_of_cell? w _ hx198_1)).trans hx198_1; replace hx198_2 := (HB.out.cell (World.block_lt_of_cell? w _ hx198_2)).trans hx198_2; replace hx198_3 := (HB.out.cell (World.block_lt_of_cell? w _ hx198_3)).trans hx198_3; replace p198 := eq_true p198; replace q198 := eq_true q198; have p199 : 0 ≤ (x11_2 : Int) := of_decide_eq_true (by first | (with_reducible assumption) | assumption); have q199 : x11_2 < (l0_0.length : Int) := of_decide_eq_true (by first | (with_reducible assumption) | assumption); obtain ⟨ad199, e199, hx199_0, hx199_1, hx199_2, hx199_3⟩ := at_T47 HR0_0.out x11_2 p199 q199; obtain rfl : ad194 = ad199 := (by injection e199); replace hx199_0 := (HB.out.cell (World.block_lt_of_cell? w _ hx199_0)).trans hx199_0; replace hx199_1 := (HB.out.cell (World.block_lt_of_cell? w _ hx199_1)).trans hx199_1; replace hx199_2 := (HB.out.cell (World.block_lt_of_cell? w _ hx199_2)).trans hx199_2; replace hx199_3 := (HB.out.cell (World.block_lt_of_cell? w _ hx199_3)).trans hx199_3; replace p199 := eq_true p199; replace q199 := eq_true q199))
                                      repeat (go_quiet (first | ((with_reducible refine gate_builtin (b := .append) (xs := #[.tmp 62, .tmp 64]) rfl ?_); (try (refine gate_guard (by rfl) ?_; dsimp only)); at_builtin; refine Kd.R_append (Kd.int .i64) (w0 := w) w.heap.size rfl (.tmp 62) (.tmp 64) 33 3 (.int .i64 0) 8 rfl Try.underlying33 info3 rfl (by decide) (by omega) u10 x10_2 x11_2 [.int .i64 x11_2] (fun _ => True) (fun _ => False) rfl rfl ?aP (fun _ hk => hk.elim) ?aF ?aO ?aB ?aS ?aL ?_; (case aP => exact rfl); (case aB => exact (by repeat (first | (with_reducible first | exact HB.out | apply below_alloc | apply pw_below_drewN | apply below_drew1 | refine below_set ?_ GE191.out) | exact HB.out))); (case aF => exact (fun _ _ => trivial)); (case aO => exact (by (with_reducible repeat (first | apply Kd.R_alloc | apply Kd.R_drewN | apply Kd.R_drew)); exact HO_10.out)); (case aS => exact (below_size (by repeat (first | (with_reducible first | exact HB.out | apply below_alloc | apply pw_below_drewN | apply below_drew1 | refine below_set ?_ GE191.out) | exact HB.out)))); (case aL => have := LMc23.out; omega); intro v196 w40 ho hb hg hat; rw [← Ny195.out] at ho; have n0_ := Aside0.mk (blk_grown (g := gb191) (o := .cells #[.slice (some ad194) l0_0.length c0_0] 25 (0, 0)) (by (with_reducible repeat (first | refine blk_drewN ?_ _ | refine blk_drew ?_ | refine blk_alloc ?_ _)); exact BK191.out) hg (Kd.R_ne HO_10.out BK191.out (by decide))); have n1_ := Aside0.mk (hb); have n2_ := Aside0.mk (ho); clear BK191; clear HB; clear HO_10; have BK191 := n0_; have HB := n1_; have HO197 := n2_; clear n0_ n1_ n2_; clear ho hb hg hat; obtain ⟨Ao41, co41, eo41⟩ := Kd.R_slice HO197.out; subst eo41; have hcz42_0 : w40.cell? ⟨gb191, 0, none⟩ = some (.slice (some ad194) l0_0.length c0_0) := (blk_cell BK191.out 0).trans rfl; have hfz42_0 := blk_frozen BK191.out 0; have p198 : 0 ≤ (x11_2 : Int) := of_decide_eq_true (by first | (with_reducible assumption) | assumption); have q198 : x11_2 < (l0_0.length : Int) := of_decide_eq_true (by first | (with_reducible assumption) | assumption); obtain ⟨ad198, e198, hx198_0, hx198_1, hx198_2, hx198_3⟩ := at_T47 HR0_0.out x11_2 p198 q198; obtain rfl : ad194 = ad198 := (by injection e198); replace hx198_0 := (HB.out.cell (World.block_lt_of_cell? w _ hx198_0)).trans hx198_0; replace hx198_1 := (HB.out.cell (World.block_lt_of_cell? w _ hx198_1)).trans hx198_1; replace hx198_2 := (HB.out.cell (World.block_lt_of_cell? w _ hx198_2)).trans hx198_2; replace hx198_3 := (HB.out.cell (World.block_lt_of_cell? w _ hx198_3)).trans hx198_3; replace p198 := eq_true p198; replace q198 := eq_true q198; have p199 : 0 ≤ (x11_2 : Int) := of_decide_eq_true (by first | (with_reducible assumption) | assumption); have q199 : x11_2 < (l0_0.length : Int) := of_decide_eq_true (by first | (with_reducible assumption) | assumption); obtain ⟨ad199, e199, hx199_0, hx199_1, hx199_2, hx199_3⟩ := at_T47 HR0_0.out x11_2 p199 q199; obtain rfl : ad194 = ad199 := (by injection e199); replace hx199_0 := (HB.out.cell (World.block_lt_of_cell? w _ hx199_0)).trans hx199_0; replace hx199_1 := (HB.out.cell (World.block_lt_of_cell? w _ hx199_1)).trans hx199_1; replace hx199_2 := (HB.out.cell (World.block_lt_of_cell? w _ hx199_2)).trans hx199_2; replace hx199_3 := (HB.out.cell (World.block_lt_of_cell? w _ hx199_3)).trans hx199_3; replace p199 := eq_true p199; replace q199 := eq_true q199)); try go_wp2_with (first | ((with_reducible refine gate_builtin (b := .append) (xs := #[.tmp 62, .tmp 64]) rfl ?_); (try (refine gate_guard (by rfl) ?_; dsimp only)); at_builtin; refine Kd.R_append (Kd.int .i64) (w0 := w) w.heap.size rfl (.tmp 62) (.tmp 64) 33 3 (.int .i64 0) 8 rfl Try.underlying33 info3 rfl (by decide) (by omega) u10 x10_2 x11_2 [.int .i64 x11_2] (fun _ => True) (fun _ => False) rfl rfl ?aP (fun _ hk => hk.elim) ?aF ?aO ?aB ?aS ?aL ?_; (case aP => exact rfl); (case aB => exact (by repeat (first | (with_reducible first | exact HB.out | apply below_alloc | apply pw_below_drewN | apply below_drew1 | refine below_set ?_ GE191.out) | exact HB.out))); (case aF => exact (fun _ _ => trivial)); (case aO => exact (by (with_reducible repeat (first | apply Kd.R_alloc | apply Kd.R_drewN | apply Kd.R_drew)); exact HO_10.out)); (case aS => exact (below_size (by repeat (first | (with_reducible first | exact HB.out | apply below_alloc | apply pw_below_drewN | apply below_drew1 | refine below_set ?_ GE191.out) | exact HB.out)))); (case aL => have := LMc23.out; omega); intro v196 w40 ho hb hg hat; rw [← Ny195.out] at ho; have n0_ := Aside0.mk (blk_grown (g := gb191) (o := .cells #[.slice (some ad194) l0_0.length c0_0] 25 (0, 0)) (by (with_reducible repeat (first | refine blk_drewN ?_ _ | refine blk_drew ?_ | refine blk_alloc ?_ _)); exact BK191.out) hg (Kd.R_ne HO_10.out BK191.out (by decide))); have n1_ := Aside0.mk (hb); have n2_ := Aside0.mk (ho); clear BK191; clear HB; clear HO_10; have BK191 := n0_; have HB := n1_; have HO197 := n2_; clear n0_ n1_ n2_; clear ho hb hg hat; obtain ⟨Ao41, co41, eo41⟩ := Kd.R_slice HO197.out; subst eo41; have hcz42_0 : w40.cell? ⟨gb191, 0, none⟩ = some (.slice (some ad194) l0_0.length c0_0) := (blk_cell BK191.out 0).trans rfl; have hfz42_0 := blk_frozen BK191.out 0; have p198 : 0 ≤ (x11_2 : Int) := of_decide_eq_true (by first | (with_reducible assumption) | assumption); have q198 : x11_2 < (l0_0.length : Int) := of_decide_eq_true (by first | (with_reducible assumption) | assumption); obtain ⟨ad198, e198, hx198_0, hx198_1, hx198_2, hx198_3⟩ := at_T47 HR0_0.out x11_2 p198 q198; obtain rfl : ad194 = ad198 := (by injection e198); replace hx198_0 := (HB.out.cell (World.block_lt_of_cell? w _ hx198_0)).trans hx198_0; replace hx198_1 := (HB.out.cell (World.block_lt_of_cell? w _ hx198_1)).trans hx198_1; replace hx198_2 := (HB.out.cell (World.block_lt_of_cell? w _ hx198_2)).trans hx198_2; replace hx198_3 := (HB.out.cell (World.block_lt_of_cell? w _ hx198_3)).trans hx198_3; replace p198 := eq_true p198; replace q198 := eq_true q198; have p199 : 0 ≤ (x11_2 : Int) := of_decide_eq_true (by first | (with_reducible assumption) | assumption); have q199 : x11_2 < (l0_0.length : Int) := of_decide_eq_true (by first | (with_reducible assumption) | assumption); obtain ⟨ad199, e199, hx199_0, hx199_1, hx199_2, hx199_3⟩ := at_T47 HR0_0.out x11_2 p199 q199; obtain rfl : ad194 = ad199 := (by injection e199); replace hx199_0 := (HB.out.cell (World.block_lt_of_cell? w _ hx199_0)).trans hx199_0; replace hx199_1 := (HB.out.cell (World.block_lt_of_cell? w _ hx199_1)).trans hx199_1; replace hx199_2 := (HB.out.cell (World.block_lt_of_cell? w _ hx199_2)).trans hx199_2; replace hx199_3 := (HB.out.cell (World.block_lt_of_cell? w _ hx199_3)).trans hx199_3; replace p199 := eq_true p199; replace q199 := eq_true q199)))
                                      go_ret
                                      exact ⟨_, by first | rfl | (simp [errW_none, errW_some] <;> rfl) | (simp only [← hji27, ← hji29]; first | rfl | (simp [errW_none, errW_some] <;> rfl)) | (simp [*, errW_none, errW_some] <;> rfl), by (with_reducible repeat (first | apply Kd.R_alloc | apply Kd.R_drewN | apply Kd.R_drew)); exact HO197.out, by repeat (first | (with_reducible first | exact HB.out | apply below_alloc | apply pw_below_drewN | apply below_drew1 | refine below_set ?_ GE191.out) | exact HB.out)⟩
                                    · rw [if_neg c39] at H
                                      have c39b0 : decide ((wrap64 ((wrap64 (a1 + ((rd_T47 l0_0 a1).f3))) - x11_2)) < ((rd_T47 l0_0 x11_2).f3)) = false := decide_eq_false c39
                                      clear c39
                                      have H' := Aside0.mk H
                                      clear H
                                      go_wp2_with (first | ((with_reducible refine gate_builtin (b := .append) (xs := #[.tmp 62, .tmp 64]) rfl ?_); (try (refine gate_guard (by rfl) ?_; dsimp only)); at_builtin; refine Kd.R_append (Kd.int .i64) (w0 := w) w.heap.size rfl (.tmp 62) (.tmp 64) 33 3 (.int .i64 0) 8 rfl Try.underlying33 info3 rfl (by decide) (by omega) u10 x10_2 x11_2 [.int .i64 x11_2] (fun _ => True) (fun _ => False) rfl rfl ?aP (fun _ hk => hk.elim) ?aF ?aO ?aB ?aS ?aL ?_; (case aP => exact rfl); (case aB => exact (by repeat (first | (with_reducible first | exact HB.out | apply below_alloc | apply pw_below_drewN | apply below_drew1 | refine below_set ?_ GE191.out) | exact HB.out))); (case aF => exact (fun _ _ => trivial)); (case aO => exact (by (with_reducible repeat (first | apply Kd.R_alloc | apply Kd.R_drewN | apply Kd.R_drew)); exact HO_10.out)); (case aS => exact (below_size (by repeat (first | (with_reducible first | exact HB.out | apply below_alloc | apply pw_below_drewN | apply below_drew1 | refine below_set ?_ GE191.out) | exact HB.out)))); (case aL => have := LMc23.out; omega); intro v196 w43 ho hb hg hat; rw [← Ny195.out] at ho; have n0_ := Aside0.mk (blk_grown (g := gb191) (o := .cells #[.slice (some ad194) l0_0.length c0_0] 25 (0, 0)) (by (with_reducible repeat (first | refine blk_drewN ?_ _ | refine blk_drew ?_ | refine blk_alloc ?_ _)); exact BK191.out) hg (Kd.R_ne HO_10.out BK191.out (by decide))); have n1_ := Aside0.mk (hb); have n2_ := Aside0.mk (ho); clear BK191; clear HB; clear HO_10; have BK191 := n0_; have HB := n1_; have HO197 := n2_; clear n0_ n1_ n2_; clear ho hb hg hat; obtain ⟨Ao44, co44, eo44⟩ := Kd.R_slice HO197.out; subst eo44; have hcz45_0 : w43.cell? ⟨gb191, 0, none⟩ = some (.slice (some ad194) l0_0.length c0_0) := (blk_cell BK191.out 0).trans rfl; have hfz45_0 := blk_frozen BK191.out 0; have p198 : 0 ≤ (x11_2 : Int) := of_decide_eq_true (by first | (with_reducible assumption) | assumption); have q198 : x11_2 < (l0_0.length : Int) := of_decide_eq_true (by first | (with_reducible assumption) | assumption); obtain ⟨ad198, e198, hx198_0, hx198_1, hx198_2, hx198_3⟩ := at_T47 HR0_0.out x11_2 p198 q198; obtain rfl : ad194 = ad198 := (by injection e198); replace hx198_0 := (HB.out.cell (World.block_lt_of_cell? w _ hx198_0)).trans hx198_0; replace hx198_1 := (HB.out.cell (World.block_lt_of_cell? w _ hx198_1)).trans hx198_1; replace hx198_2 := (HB.out.cell (World.block_lt_of_cell? w _ hx198_2)).trans hx198_2; replace hx198_3 := (HB.out.cell (World.block_lt_of_cell? w _ hx198_3)).trans hx198_3; replace p198 := eq_true p198; replace q198 := eq_true q198; have p199 : 0 ≤ (x11_2 : Int) := of_decide_eq_true (by first | (with_reducible assumption) | assumption); have q199 : x11_2 < (l0_0.length : Int) := of_decide_eq_true (by first | (with_reducible assumption) | assumption); obtain ⟨ad199, e199, hx199_0, hx199_1, hx199_2, hx199_3⟩ := at_T47 HR0_0.out x11_2 p199 q199; obtain rfl : ad194 = ad199 := (by injection e199); replace hx199_0 := (HB.out.cell (World.block_lt_of_cell? w _ hx199_0)).trans hx199_0; replace hx199_1 := (HB.out.cell (World.block_lt_of_cell? w _ hx199_1)).trans hx199_1; replace hx199_2 := (HB.out.cell (World.block_lt_of_cell? w _ hx199_2)).trans hx199_2; replace hx199_3 := (HB.out.cell (World.block_lt_of_cell? w _ hx199_3)).trans hx199_3; replace p199 := eq_true p199; replace q199 := eq_true q199; have p200 : 0 ≤ (x11_2 : Int) := of_decide_eq_true (by first | (with_reducible assumption) | assumption); have q200 : x11_2 < (l0_0.length : Int) := of_decide_eq_true (by first | (with_reducible assumption) | assumption); obtain ⟨ad200, e200, hx200_0, hx200_1, hx200_2, hx200_3⟩ := at_T47 HR0_0.out x11_2 p200 q200; obtain rfl : ad194 = ad200 := (by injection e200); replace hx200_0 := (HB.out.cell (World.block_lt_of_cell? w _ hx200_0)).trans hx200_0; replace hx200_1 := (HB.out.cell (World.block_lt_of_cell? w _ hx200_1)).trans hx200_1; replace hx200_2 := (HB.out.cell (World.block_lt_of_cell? w _ hx200_2)).trans hx200_2; replace hx200_3 := (HB.out.cell (World.block_lt_of_cell? w _ hx200_3)).trans hx200_3; replace p200 := eq_true p200; replace q200 := eq_true q200))
                                      repeat (go_quiet (first | ((with_reducible refine gate_builtin (b := .append) (xs := #[.tmp 62, .tmp 64]) rfl ?_); (try (refine gate_guard (by rfl) ?_; dsimp only)); at_builtin; refine Kd.R_append (Kd.int .i64) (w0 := w) w.heap.size rfl (.tmp 62) (.tmp 64) 33 3 (.int .i64 0) 8 rfl Try.underlying33 info3 rfl (by decide) (by omega) u10 x10_2 x11_2 [.int .i64 x11_2] (fun _ => True) (fun _ => False) rfl rfl ?aP (fun _ hk => hk.elim) ?aF ?aO ?aB ?aS ?aL ?_; (case aP => exact rfl); (case aB => exact (by repeat (first | (with_reducible first | exact HB.out | apply below_alloc | apply pw_below_drewN | apply below_drew1 | refine below_set ?_ GE191.out) | exact HB.out))); (case aF => exact (fun _ _ => trivial)); (case aO => exact (by (with_reducible repeat (first | apply Kd.R_alloc | apply Kd.R_drewN | apply Kd.R_drew)); exact HO_10.out)); (case aS => exact (below_size (by repeat (first | (with_reducible first | exact HB.out | apply below_alloc | apply pw_below_drewN | apply below_drew1 | refine below_set ?_ GE191.out) | exact HB.out)))); (case aL => have := LMc23.out; omega); intro v196 w43 ho hb hg hat; rw [← Ny195.out] at ho; have n0_ := Aside0.mk (blk_grown (g := gb191) (o := .cells #[.slice (some ad194) l0_0.length c0_0] 25 (0, 0)) (by (with_reducible repeat (first | refine blk_drewN ?_ _ | refine blk_drew ?_ | refine blk_alloc ?_ _)); exact BK191.out) hg (Kd.R_ne HO_10.out BK191.out (by decide))); have n1_ := Aside0.mk (hb); have n2_ := Aside0.mk (ho); clear BK191; clear HB; clear HO_10; have BK191 := n0_; have HB := n1_; have HO197 := n2_; clear n0_ n1_ n2_; clear ho hb hg hat; obtain ⟨Ao44, co44, eo44⟩ := Kd.R_slice HO197.out; subst eo44; have hcz45_0 : w43.cell? ⟨gb191, 0, none⟩ = some (.slice (some ad194) l0_0.length c0_0) := (blk_cell BK191.out 0).trans rfl; have hfz45_0 := blk_frozen BK191.out 0; have p198 : 0 ≤ (x11_2 : Int) := of_decide_eq_true (by first | (with_reducible assumption) | assumption); have q198 : x11_2 < (l0_0.length : Int) := of_decide_eq_true (by first | (with_reducible assumption) | assumption); obtain ⟨ad198, e198, hx198_0, hx198_1, hx198_2, hx198_3⟩ := at_T47 HR0_0.out x11_2 p198 q198; obtain rfl : ad194 = ad198 := (by injection e198); replace hx198_0 := (HB.out.cell (World.block_lt_of_cell? w _ hx198_0)).trans hx198_0; replace hx198_1 := (HB.out.cell (World.block_lt_of_cell? w _ hx198_1)).trans hx198_1; replace hx198_2 := (HB.out.cell (World.block_lt_of_cell? w _ hx198_2)).trans hx198_2; replace hx198_3 := (HB.out.cell (World.block_lt_of_cell? w _ hx198_3)).trans hx198_3; replace p198 := eq_true p198; replace q198 := eq_true q198; have p199 : 0 ≤ (x11_2 : Int) := of_decide_eq_true (by first | (with_reducible assumption) | assumption); have q199 : x11_2 < (l0_0.length : Int) := of_decide_eq_true (by first | (with_reducible assumption) | assumption); obtain ⟨ad199, e199, hx199_0, hx199_1, hx199_2, hx199_3⟩ := at_T47 HR0_0.out x11_2 p199 q199; obtain rfl : ad194 = ad199 := (by injection e199); replace hx199_0 := (HB.out.cell (World.block_lt_of_cell? w _ hx199_0)).trans hx199_0; replace hx199_1 := (HB.out.cell (World.block_lt_of_cell? w _ hx199_1)).trans hx199_1; replace hx199_2 := (HB.out.cell (World.block_lt_of_cell? w _ hx199_2)).trans hx199_2; replace hx199_3 := (HB.out.cell (World.block_lt_of_cell? w _ hx199_3)).trans hx199_3; replace p199 := eq_true p199; replace q199 := eq_true q199; have p200 : 0 ≤ (x11_2 : Int) := of_decide_eq_true (by first | (with_reducible assumption) | assumption); have q200 : x11_2 < (l0_0.length : Int) := of_decide_eq_true (by first | (with_reducible assumption) | assumption); obtain ⟨ad200, e200, hx200_0, hx200_1, hx200_2, hx200_3⟩ := at_T47 HR0_0.out x11_2 p200 q200; obtain rfl : ad194 = ad200 := (by injection e200); replace hx200_0 := (HB.out.cell (World.block_lt_of_cell? w _ hx200_0)).trans hx200_0; replace hx200_1 := (HB.out.cell (World.block_lt_of_cell? w _ hx200_1)).trans hx200_1; replace hx200_2 := (HB.out.cell (World.block_lt_of_cell? w _ hx200_2)).trans hx200_2; replace hx200_3 := (HB.out.cell (World.block_lt_of_cell? w _ hx200_3)).trans hx200_3; replace p200 := eq_true p200; replace q200 := eq_true q200)); try go_wp2_with (first | ((with_reducible refine gate_builtin (b := .append) (xs := #[.tmp 62, .tmp 64]) rfl ?_); (try (refine gate_guard (by rfl) ?_; dsimp only)); at_builtin; refine Kd.R_append (Kd.int .i64) (w0 := w) w.heap.size rfl (.tmp 62) (.tmp 64) 33 3 (.int .i64 0) 8 rfl Try.underlying33 info3 rfl (by decide) (by omega) u10 x10_2 x11_2 [.int .i64 x11_2] (fun _ => True) (fun _ => False) rfl rfl ?aP (fun _ hk => hk.elim) ?aF ?aO ?aB ?aS ?aL ?_; (case aP => exact rfl); (case aB => exact (by repeat (first | (with_reducible first | exact HB.out | apply below_alloc | apply pw_below_drewN | apply below_drew1 | refine below_set ?_ GE191.out) | exact HB.out))); (case aF => exact (fun _ _ => trivial)); (case aO => exact (by (with_reducible repeat (first | apply Kd.R_alloc | apply Kd.R_drewN | apply Kd.R_drew)); exact HO_10.out)); (case aS => exact (below_size (by repeat (first | (with_reducible first | exact HB.out | apply below_alloc | apply pw_below_drewN | apply below_drew1 | refine below_set ?_ GE191.out) | exact HB.out)))); (case aL => have := LMc23.out; omega); intro v196 w43 ho hb hg hat; rw [← Ny195.out] at ho; have n0_ := Aside0.mk (blk_grown (g := gb191) (o := .cells #[.slice (some ad194) l0_0.length c0_0] 25 (0, 0)) (by (with_reducible repeat (first | refine blk_drewN ?_ _ | refine blk_drew ?_ | refine blk_alloc ?_ _)); exact BK191.out) hg (Kd.R_ne HO_10.out BK191.out (by decide))); have n1_ := Aside0.mk (hb); have n2_ := Aside0.mk (ho); clear BK191; clear HB; clear HO_10; have BK191 := n0_; have HB := n1_; have HO197 := n2_; clear n0_ n1_ n2_; clear ho hb hg hat; obtain ⟨Ao44, co44, eo44⟩ := Kd.R_slice HO197.out; subst eo44; have hcz45_0 : w43.cell? ⟨gb191, 0, none⟩ = some (.slice (some ad194) l0_0.length c0_0) := (blk_cell BK191.out 0).trans rfl; have hfz45_0 := blk_frozen BK191.out 0; have p198 : 0 ≤ (x11_2 : Int) := of_decide_eq_true (by first | (with_reducible assumption) | assumption); have q198 : x11_2 < (l0_0.length : Int) := of_decide_eq_true (by first | (with_reducible assumption) | assumption); obtain ⟨ad198, e198, hx198_0, hx198_1, hx198_2, hx198_3⟩ := at_T47 HR0_0.out x11_2 p198 q198; obtain rfl : ad194 = ad198 := (by injection e198); replace hx198_0 := (HB.out.cell (World.block_lt_of_cell? w _ hx198_0)).trans hx198_0; replace hx198_1 := (HB.out.cell (World.block_lt_of_cell? w _ hx198_1)).trans hx198_1; replace hx198_2 := (HB.out.cell (World.block_lt_of_cell? w _ hx198_2)).trans hx198_2; replace hx198_3 := (HB.out.cell (World.block_lt_of_cell? w _ hx198_3)).trans hx198_3; replace p198 := eq_true p198; replace q198 := eq_true q198; have p199 : 0 ≤ (x11_2 : Int) := of_decide_eq_true (by first | (with_reducible assumption) | assumption); have q199 : x11_2 < (l0_0.length : Int) := of_decide_eq_true (by first | (with_reducible assumption) | assumption); obtain ⟨ad199, e199, hx199_0, hx199_1, hx199_2, hx199_3⟩ := at_T47 HR0_0.out x11_2 p199 q199; obtain rfl : ad194 = ad199 := (by injection e199); replace hx199_0 := (HB.out.cell (World.block_lt_of_cell? w _ hx199_0)).trans hx199_0; replace hx199_1 := (HB.out.cell (World.block_lt_of_cell? w _ hx199_1)).trans hx199_1; replace hx199_2 := (HB.out.cell (World.block_lt_of_cell? w _ hx199_2)).trans hx199_2; replace hx199_3 := (HB.out.cell (World.block_lt_of_cell? w _ hx199_3)).trans hx199_3; replace p199 := eq_true p199; replace q199 := eq_true q199; have p200 : 0 ≤ (x11_2 : Int) := of_decide_eq_true (by first | (with_reducible assumption) | assumption); have q200 : x11_2 < (l0_0.length : Int) := of_decide_eq_true (by first | (with_reducible assumption) | assumption); obtain ⟨ad200, e200, hx200_0, hx200_1, hx200_2, hx200_3⟩ := at_T47 HR0_0.out x11_2 p200 q200; obtain rfl : ad194 = ad200 := (by injection e200); replace hx200_0 := (HB.out.cell (World.block_lt_of_cell? w _ hx200_0)).trans hx200_0; replace hx200_1 := (HB.out.cell (World.block_lt_of_cell? w _ hx200_1)).trans hx200_1; replace hx200_2 := (HB.out.cell (World.block_lt_of_cell? w _ hx200_2)).trans hx200_2; replace hx200_3 := (HB.out.cell (World.block_lt_of_cell? w _ hx200_3)).trans hx200_3; replace p200 := eq_true p200; replace q200 := eq_true q200)))
                                      go_roundg kj18
                                      case measure => have := HJ4.out; have := HK2.out; have := HJ18.out; omega
                                      case rel => exact ⟨(y195), (wrap64 (x11_2 + ((rd_T47 l0_0 x11_2).f3))), (by first | rfl | (simp; done) | (simp [*]; done)), H', ⟨by have := HJ4.out; have := HK2.out; have := HJ18.out; omega⟩, ⟨by (with_reducible repeat (first | apply Kd.R_alloc | apply Kd.R_drewN | apply Kd.R_drew)); exact HO197.out⟩, ⟨by (with_reducible repeat (first | refine blk_drewN ?_ _ | refine blk_drew ?_ | refine blk_alloc ?_ _)); exact BK191.out⟩, ⟨by repeat (first | (with_reducible first | exact HB.out | apply below_alloc | apply pw_below_drewN | apply below_drew1 | refine below_set ?_ GE191.out) | exact HB.out)⟩⟩
                                · rw [if_neg c34] at H
                                  exact absurd H (by simp)
                              · rw [if_neg c33] at H
                                exact absurd H (by simp)
                          · rw [if_neg c28] at H
                            exact absurd H (by simp)
                      · rw [if_neg c23] at H
                        exact absurd H (by simp)
                    · replace c22 := Bool.eq_false_iff.mpr c22
                      subst c22
                      have H1 : (some x10_2) = some r := by rw [if_neg (show ¬ (false = true) by decide)] at H; exact H
                      clear H
                      have H := H1
                      clear H1
                      obtain rfl := Option.some.inj H
                      go_wp2
                      repeat (go_quiet (fail); try go_wp2)
                      go_ret
                      exact ⟨_, by first | rfl | (simp [errW_none, errW_some] <;> rfl) | (simp [*, errW_none, errW_some] <;> rfl), by (with_reducible repeat (first | apply Kd.R_alloc | apply Kd.R_drewN | apply Kd.R_drew)); exact HO_10.out, by repeat (first | (with_reducible first | exact HB.out | apply below_alloc | apply pw_below_drewN | apply below_drew1 | refine below_set ?_ GE191.out) | exact HB.out)⟩
          · rw [if_neg c17] at H
            exact absurd H (by simp)
        · rw [if_neg c16] at H
          exact absurd H (by simp)

end Go.Proofs.Ytodldpdnhcafpaa.F

namespace Go.Proofs.Ytodldpdnhcafpaa.Q
open Go.RowKit Go.Proofs.YtodldpdnhcafpaaW.PrintWords Go.Proofs.YtodldpdnhcafpaaW.PrintLast Go.Proofs.YtodldpdnhcafpaaW.PrintMore
open Go.Proofs.Ytodldpdnhcafpaa.F Go.Proofs.Ytodldpdnhcafpaa.K
set_option linter.unusedSimpArgs false
set_option linter.unusedVariables false

/-- Are the kids from x on in order up to en? -/
def ck (l : List S47) (en : Int) : Nat → Int → Bool
  | 0, _ => true
  | d + 1, x => if x < en then (if (rd_T47 l x).f3 < 1 then false else if (rd_T47 l x).f3 > en - x then false else ck l en d (x + (rd_T47 l x).f3)) else true
def C (l : List S47) (x en : Int) : Bool := ck l en l.length x
/-- The nodes from n on, the ends of those around from the innermost on. -/
def pops (n : Int) : List Int → List Int
  | [] => []
  | e :: s => if e = n then pops n s else e :: s
def endOf (l : List S47) : List Int → Int
  | [] => l.length
  | e :: _ => e
def run (l : List S47) : Nat → Int → List Int → Bool
  | 0, _, _ => true
  | f + 1, n, s => if (rd_T47 l n).f0 ≥ 58 then false else if (rd_T47 l n).f3 < 1 then false else if (rd_T47 l n).f3 > endOf l (pops n s) - n then false else run l f (n + 1) ((n + (rd_T47 l n).f3) :: pops n s)

end Go.Proofs.Ytodldpdnhcafpaa.Q

namespace Go.Proofs.Ytodldpdnhcafpaa.Q
open Go.RowKit Go.Proofs.YtodldpdnhcafpaaW.PrintWords Go.Proofs.YtodldpdnhcafpaaW.PrintLast Go.Proofs.YtodldpdnhcafpaaW.PrintMore
open Go.Proofs.Ytodldpdnhcafpaa.F Go.Proofs.Ytodldpdnhcafpaa.K
set_option linter.unusedSimpArgs false
set_option linter.unusedVariables false

theorem u64_wrap_nonneg (x : Int) : 0 ≤ IntKind.u64.wrap x := by
  simp [IntKind.wrap, IntKind.bits, IntKind.signed]
  try omega
theorem chV_one (bits x : Int) : chV bits x = 0 ∨ chV bits x = 1 := by
  unfold chV
  generalize shr .u64 bits _ = v
  simp [Go.bits]
  have e : ∀ n : Nat, n &&& 1 = 0 ∨ n &&& 1 = 1 := fun n => by rw [Nat.and_one_is_mod]; omega
  have e1 : (1 : Nat) % 2 ^ IntKind.u64.bits = 1 := by rfl
  rw [e1]
  rcases e (v % 2 ^ IntKind.u64.bits).toNat with h | h
  · left; rw [h]; rfl
  · right; rw [h]; rfl
/-- What a Walk that is left behind s numbers has given; s below 0: it is not left. -/
def upto (s : Int) (pre ws : List Int) : List Int := if s < 0 then pre ++ ws else pre ++ ws.take (s.toNat - pre.length)
theorem walk_loop (ns : List S47) (hn : ns.length ≤ 4398046511104) (bits s en : Int) (he : en ≤ (ns.length : Int)) (d : Nat) : ∀ (pre : List Int) (x : Int), 0 ≤ x → en - x ≤ d → (pre.length : Int) ≤ x → (0 ≤ s → (pre.length : Int) < s) →
    Ev (fun k => monikerref4_Walk.l0 k bits s en pre x ns) (upto s pre (walkL ns (chB bits) en d x)) := by
  have hend : ∀ (pre : List Int) (x : Int), ¬ x < en → Ev (fun k => monikerref4_Walk.l0 k bits s en pre x ns) pre := by
    intro pre x hx
    refine Ev.step (f := fun k => monikerref4_Walk.j2 k bits s en pre x false ns) (fun k => ?_) ?_
    · simp only [monikerref4_Walk.l0]; rw [if_neg hx]
    · refine Ev.step (fun k => ?_) (Ev.now _)
      simp only [monikerref4_Walk.j2]; rw [if_neg (by simp)]
  induction d with
  | zero =>
    intro pre x h0 hd hp hs
    have := hend pre x (by omega)
    simpa [upto, walkL] using this
  | succ d ih =>
    intro pre x h0 hd hp hs
    by_cases c : x < en
    · have hlim : pre.length < 17592186044416 := by omega
      have hpl : ((pre ++ [x]).length : Int) = pre.length + 1 := by rw [List.length_append, List.length_singleton]; rfl
      have hne : (((pre.length : Int)) != s) = true := by
        rw [bne_iff_ne]
        intro h
        by_cases q : 0 ≤ s
        · have := hs q; omega
        · omega
      refine Ev.step (f := fun k => monikerref4_Walk.j2 k bits s en pre x true ns) (fun k => ?_) ?_
      · simp only [monikerref4_Walk.l0]; rw [if_pos c, hne]
      simp only [walkL]
      rw [if_pos c]
      have hup : ∀ ws, ((pre ++ [x]).length : Int) ≠ s → upto s pre (x :: ws) = upto s (pre ++ [x]) ws := fun ws hx => by
        unfold upto
        by_cases q : s < 0
        · rw [if_pos q, if_pos q, List.append_assoc]; rfl
        · rw [if_neg q, if_neg q, List.append_assoc]
          have h1 := hs (by omega)
          have e : s.toNat - pre.length = (s.toNat - (pre ++ [x]).length) + 1 := by rw [List.length_append, List.length_singleton]; omega
          rw [e]
          rfl
      by_cases hx : ((pre ++ [x]).length : Int) = s
      · have hst : ∀ ws, upto s pre (x :: ws) = pre ++ [x] := fun ws => by
          unfold upto
          rw [if_neg (by omega), show s.toNat - pre.length = 1 by omega]
          rfl
        rw [hst]
        refine Ev.step (fun k => ?_) (Ev.now _)
        simp only [monikerref4_Walk.j2, Option.bind_some]
        rw [if_pos trivial, if_pos hlim, if_pos hx]
      · rw [hup _ hx]
        have hw1 : wrap64 (x + 1) = x + 1 := kw64 (by omega) (by omega)
        have hw2 : wrap64 (en - x) = en - x := kw64 (by omega) (by omega)
        have hs' : 0 ≤ s → ((pre ++ [x]).length : Int) < s := fun q => by have := hs q; omega
        rcases chV_one bits x with hv | hv
        · have hb : chB bits x = false := by unfold chB; rw [hv]; rfl
          rw [hb]
          refine Ev.step (fun k => ?_) (ih (pre ++ [x]) (x + 1) (by omega) (by omega) (by omega) hs')
          simp only [monikerref4_Walk.j2, Option.bind_some]
          rw [if_pos trivial, if_pos hlim, if_neg hx, if_pos (u64_wrap_nonneg _), if_pos (show Go.bits .and .u64 (shr .u64 bits (IntKind.u64.wrap (Go.bits .and .i64 x 63))) 1 = 0 from hv), hw1]
        · have hb : chB bits x = true := by unfold chB; rw [hv]; rfl
          have hv0 : ¬ Go.bits .and .u64 (shr .u64 bits (IntKind.u64.wrap (Go.bits .and .i64 x 63))) 1 = 0 := fun h => by have h' : chV bits x = 0 := h; omega
          have hxl : x < (ns.length : Int) := by omega
          rw [hb, if_pos rfl]
          by_cases c1 : (rd_T47 ns x).f3 < 1
          · rw [if_pos c1]
            have e : upto s (pre ++ [x]) [] = pre ++ [x] := by unfold upto; split <;> simp
            rw [e]
            refine Ev.step (fun k => ?_) (Ev.now _)
            simp only [monikerref4_Walk.j2, Option.bind_some]
            rw [if_pos trivial, if_pos hlim, if_neg hx, if_pos (u64_wrap_nonneg _), if_neg hv0, if_pos h0, if_pos hxl, if_pos c1]
          · rw [if_neg c1]
            by_cases c2 : (rd_T47 ns x).f3 > en - x
            · rw [if_pos c2]
              have e : upto s (pre ++ [x]) [] = pre ++ [x] := by unfold upto; split <;> simp
              rw [e]
              refine Ev.step (fun k => ?_) (Ev.now _)
              simp only [monikerref4_Walk.j2, Option.bind_some]
              rw [if_pos trivial, if_pos hlim, if_neg hx, if_pos (u64_wrap_nonneg _), if_neg hv0, if_pos h0, if_pos hxl, if_neg c1, hw2, if_pos c2]
            · rw [if_neg c2]
              have hw3 : wrap64 (x + (rd_T47 ns x).f3) = x + (rd_T47 ns x).f3 := kw64 (by omega) (by omega)
              refine Ev.step (fun k => ?_) (ih (pre ++ [x]) (x + (rd_T47 ns x).f3) (by omega) (by omega) (by omega) hs')
              simp only [monikerref4_Walk.j2, Option.bind_some]
              rw [if_pos trivial, if_pos hlim, if_neg hx, if_pos (u64_wrap_nonneg _), if_neg hv0, if_pos h0, if_pos hxl, if_neg c1, hw2, if_neg c2, hw3]
    · have := hend pre x c
      simp only [walkL]
      rw [if_neg c]
      have e : upto s pre [] = pre := by unfold upto; split <;> simp
      rw [e]
      exact this

theorem RWalk_is (ns : List S47) (hn : ns.length ≤ 4398046511104) (bits s n : Int) (hs : 0 ≤ s → 0 < s) : Ev (fun k => monikerref4_Walk.f k ns n bits s) (upto s [] (walkOf ns (chB bits) n)) := by
  have hbad : Ev (fun k => monikerref4_Walk.j0 k n bits s true ns) ([] : List Int) := Ev.step (fun k => by simp only [monikerref4_Walk.j0]; rw [if_pos trivial]) (Ev.now _)
  have hnil : sizedB ns n = false → upto s [] (walkOf ns (chB bits) n) = [] := fun h => by
    unfold walkOf upto
    rw [h]
    split <;> simp
  unfold monikerref4_Walk.f
  by_cases h1 : n < 0
  · rw [hnil (by unfold sizedB; rw [decide_eq_false (by omega)]; rfl)]
    simp only [if_pos h1]
    exact hbad
  simp only [if_neg h1]
  by_cases h2 : n ≥ (ns.length : Int)
  · rw [hnil (by unfold sizedB; rw [decide_eq_false (show ¬ n < (ns.length : Int) by omega)]; simp)]
    simp only [if_pos h2]
    exact hbad
  simp only [if_neg h2, if_pos (show 0 ≤ n by omega), if_pos (show n < (ns.length : Int) by omega)]
  by_cases h3 : (rd_T47 ns n).f3 < 1
  · rw [hnil (by unfold sizedB; rw [decide_eq_false (show ¬ 1 ≤ (rd_T47 ns n).f3 by omega)]; simp)]
    simp only [if_pos h3]
    exact hbad
  simp only [if_neg h3]
  have hw : wrap64 ((ns.length : Int) - n) = (ns.length : Int) - n := kw64 (by omega) (by omega)
  rw [hw]
  by_cases h4 : (rd_T47 ns n).f3 > (ns.length : Int) - n
  · rw [hnil (by unfold sizedB; rw [decide_eq_false (show ¬ (rd_T47 ns n).f3 ≤ (ns.length : Int) - n by omega)]; simp), decide_eq_true h4]
    exact hbad
  rw [decide_eq_false h4]
  have hsz : sizedB ns n = true := by
    unfold sizedB
    rw [decide_eq_true (show 0 ≤ n by omega), decide_eq_true (show n < (ns.length : Int) by omega), decide_eq_true (show 1 ≤ (rd_T47 ns n).f3 by omega), decide_eq_true (show (rd_T47 ns n).f3 ≤ (ns.length : Int) - n by omega)]
    rfl
  have hw2 : wrap64 (n + (rd_T47 ns n).f3) = n + (rd_T47 ns n).f3 := kw64 (by omega) (by omega)
  have := walk_loop ns hn bits s (n + (rd_T47 ns n).f3) (by omega) ns.length [] n (by omega) (by omega) (by simp; omega) (fun q => by simpa using hs q)
  unfold walkOf
  rw [if_pos hsz]
  refine Ev.step (fun k => ?_) this
  simp only [monikerref4_Walk.j0]
  rw [if_neg (by simp), if_pos (by omega), if_pos (by omega), hw2]
theorem chB_zero : chB 0 = fun _ => false := by
  funext x
  unfold chB chV
  have h : ∀ y, shr .u64 0 y = 0 := fun y => by simp [shr]
  rw [h]
  rfl
end Go.Proofs.Ytodldpdnhcafpaa.Q

-- What the law TreeWalks compares: plain facts of the document's Walk
namespace Go.Proofs.Ytodldpdnhcafpaa.Q
open Go.RowKit Go.Proofs.YtodldpdnhcafpaaW.PrintWords Go.Proofs.YtodldpdnhcafpaaW.PrintLast Go.Proofs.YtodldpdnhcafpaaW.PrintMore
open Go.Proofs.Ytodldpdnhcafpaa.F Go.Proofs.Ytodldpdnhcafpaa.K
set_option linter.unusedSimpArgs false
set_option linter.unusedVariables false

theorem upto_all (ws : List Int) : upto (-1) [] ws = ws := by
  unfold upto
  rw [if_pos (by omega)]
  rfl
/-- Behind how many numbers the Walk is left; -1: it is not. -/
def wantOf (stop : Int) : Int := if stop < 1 then -1 else stop
theorem upto_done {stop : Int} {ws : List Int} (h : 1 ≤ stop → (ws.length : Int) < stop) : upto (wantOf stop) [] ws = ws := by
  unfold wantOf
  by_cases c : stop < 1
  · rw [if_pos c]
    exact upto_all ws
  · rw [if_neg c]
    unfold upto
    rw [if_neg (by omega)]
    have := h (by omega)
    simp only [List.nil_append, List.length_nil, Nat.sub_zero]
    exact List.take_of_length_le (by omega)
theorem upto_stop {stop : Int} {pre ws : List Int} (h1 : 1 ≤ stop) (hp : pre <+: ws) (hl : (pre.length : Int) = stop) : upto (wantOf stop) [] ws = pre := by
  unfold wantOf upto
  rw [if_neg (by omega), if_neg (by omega)]
  simp only [List.nil_append, List.length_nil, Nat.sub_zero]
  rw [show stop.toNat = pre.length by omega]
  exact (List.prefix_iff_eq_take.1 hp).symm
theorem RWalk_all (ns : List S47) (hn : ns.length ≤ 4398046511104) (bits n : Int) : Ev (fun k => monikerref4_Walk.f k ns n bits (-1)) (walkOf ns (chB bits) n) := by
  have h := RWalk_is ns hn bits (-1) n (by omega)
  rwa [upto_all] at h
theorem RWalk_upto (ns : List S47) (hn : ns.length ≤ 4398046511104) (stop n : Int) : Ev (fun k => monikerref4_Walk.f k ns n 0 (wantOf stop)) (upto (wantOf stop) [] (walkOf ns (fun _ => false) n)) := by
  have h := RWalk_is ns hn 0 (wantOf stop) n (by unfold wantOf; split <;> omega)
  rwa [chB_zero] at h
end Go.Proofs.Ytodldpdnhcafpaa.Q

namespace Go.Proofs.Ytodldpdnhcafpaa.H
open Go.RowKit Go.Proofs.YtodldpdnhcafpaaW.PrintWords Go.Proofs.YtodldpdnhcafpaaW.PrintLast Go.Proofs.YtodldpdnhcafpaaW.PrintMore
open Go.Proofs.Ytodldpdnhcafpaa.F
set_option linter.unusedVariables false
set_option linter.unusedSimpArgs false
theorem Reps.app {α : Type} {R : α → List Value → Prop} {size : Nat} {ps qs : List α} {cs ds : List Value} (h : Reps R size ps cs) (k : Reps R size qs ds) : Reps R size (ps ++ qs) (cs ++ ds) := by
  refine ⟨by rw [List.length_append, h.1, k.1, List.length_append, Nat.add_mul], fun j q hq => ?_⟩
  rcases Nat.lt_or_ge j ps.length with hj | hj
  · rw [List.getElem?_append_left hj] at hq
    have h1 : j * size + size ≤ cs.length := by rw [h.1, ← Nat.succ_mul]; exact Nat.mul_le_mul_right _ hj
    have h2 := h.2 j q hq
    rw [List.drop_append_of_le_length (by omega), List.take_append_of_le_length (by rw [List.length_drop]; omega)]
    exact h2
  · rw [List.getElem?_append_right hj] at hq
    have h2 := k.2 _ q hq
    have e : j * size = cs.length + (j - ps.length) * size := by rw [h.1, ← Nat.add_mul]; congr 1; omega
    rw [e, List.drop_append, List.drop_eq_nil_of_le (by omega), List.nil_append, Nat.add_sub_cancel_left]
    exact h2

theorem row_cells61 {w : World} {A : Option Addr} {l : List S61} (hr : Kd.C k61 w A l.length l) :
    ∃ inner, Reps (k61.K w) 3 l inner ∧ (A = none → l.length = 0) ∧ ∀ ad, A = some ad → ∀ j u, inner[j]? = some u → w.cell? (ad.add j) = some u := by
  cases A with
  | none =>
    have h0 : l.length = 0 := by
      rcases Nat.eq_zero_or_pos l.length with h | h
      · exact h
      · obtain ⟨ad, e, _⟩ := hr.2.2 h
        cases e
    obtain rfl := List.eq_nil_of_length_eq_zero h0
    exact ⟨[], Reps.none _ _, fun _ => h0, (fun ad e => by cases e)⟩
  | some ad =>
    obtain ⟨inner, h1, h2⟩ := ReadsRow.inner_ (R := k61.K w) (size := 3) hr
    exact ⟨inner, h1, (fun e => by cases e), fun ad2 e => by cases e; exact h2⟩
theorem row_one61 {w : World} {l : List S61} {inner : List Value} (h : Reps (k61.K w) 3 l inner) : ∀ u ∈ inner, u.oneCell' = true := by
  intro u hu
  obtain ⟨i, hi, rfl⟩ := List.mem_iff_getElem.1 hu
  have hj : i / 3 < l.length := by have := h.1; omega
  have hk := h.2 (i / 3) (l[i / 3]'hj) (List.getElem?_eq_getElem hj)
  refine k61.K_one hk _ ?_
  rw [List.mem_iff_getElem]
  refine ⟨i % 3, by rw [List.length_take, List.length_drop]; have := h.1; omega, ?_⟩
  rw [List.getElem_take, List.getElem_drop]
  congr 1
  omega
def marks61 : List S61 := [⟨0, -5, -6⟩, ⟨77, 0, 0⟩]
def mcells61 : List Value := [.int .u8 0, .int .i64 (-5), .int .i64 (-6), .int .u8 77, .int .i64 0, .int .i64 0]
theorem mcell61 (w2 : World) (j : Nat) (u : Value) (hu : mcells61[j]? = some u) : (w2.alloc (.cells mcells61.toArray 61)).cell? ((⟨w2.heap.size, 0, none⟩ : Addr).add j) = some u := by
  rw [add_plain, World.cell?_alloc_new]; simpa using hu
theorem mcells61_one : ∀ u ∈ mcells61, u.oneCell' = true := by simp [mcells61, Value.oneCell']
theorem reps_marks61 (w : World) : Reps (k61.K w) 3 marks61 mcells61 := by
  refine ⟨rfl, fun j p hj => ?_⟩
  match j, hj with
  | 0, hj => cases hj; exact k61_mk w _
  | 1, hj => cases hj; exact k61_mk w _
  | j + 2, hj => simp [marks61] at hj
theorem C_of_own61 {w w3 : World} {base g c : Nat} {l : List S61} {inner : List Value} (hR : Reps (k61.K w) 3 l inner) (h : w3.ownsRow base 61 3 (.slice (some ⟨g, 0, none⟩) (l.length + 2) c) (l.length + 2) (inner ++ mcells61)) :
    Kd.C k61 w3 (some ⟨g, 0, none⟩) (l.length + 2) (l ++ marks61) := by
  have hk : ∀ (p : S61) cs, k61.K w p cs → k61.K w3 p cs := fun p cs h => by rw [k61_open h]; exact k61_mk w3 p
  obtain ⟨A, c', he, hrow⟩ := own_reads_row (R := k61.K w3) (ps := l ++ marks61) h (Reps.app (Reps.imp_ hR hk) (reps_marks61 w3)) (by simp [marks61])
  injection he with h1 _ _
  subst h1
  exact hrow
theorem C_lent61 {w : World} {A : Option Addr} {l : List S61} (h : Kd.C k61 w A (l.length + 2) (l ++ marks61)) : Kd.C k61 w A l.length l := by
  have h' : Kd.C k61 w A (l ++ marks61).length (l ++ marks61) := by rw [List.length_append]; exact h
  have h2 := Kd.C_take (m := l.length) h' (by simp)
  simpa using h2

theorem row_cells47 {w : World} {A : Option Addr} {l : List S47} (hr : Kd.C k47 w A l.length l) :
    ∃ inner, Reps (k47.K w) 4 l inner ∧ (A = none → l.length = 0) ∧ ∀ ad, A = some ad → ∀ j u, inner[j]? = some u → w.cell? (ad.add j) = some u := by
  cases A with
  | none =>
    have h0 : l.length = 0 := by
      rcases Nat.eq_zero_or_pos l.length with h | h
      · exact h
      · obtain ⟨ad, e, _⟩ := hr.2.2 h
        cases e
    obtain rfl := List.eq_nil_of_length_eq_zero h0
    exact ⟨[], Reps.none _ _, fun _ => h0, (fun ad e => by cases e)⟩
  | some ad =>
    obtain ⟨inner, h1, h2⟩ := ReadsRow.inner_ (R := k47.K w) (size := 4) hr
    exact ⟨inner, h1, (fun e => by cases e), fun ad2 e => by cases e; exact h2⟩
theorem row_one47 {w : World} {l : List S47} {inner : List Value} (h : Reps (k47.K w) 4 l inner) : ∀ u ∈ inner, u.oneCell' = true := by
  intro u hu
  obtain ⟨i, hi, rfl⟩ := List.mem_iff_getElem.1 hu
  have hj : i / 4 < l.length := by have := h.1; omega
  have hk := h.2 (i / 4) (l[i / 4]'hj) (List.getElem?_eq_getElem hj)
  refine k47.K_one hk _ ?_
  rw [List.mem_iff_getElem]
  refine ⟨i % 4, by rw [List.length_take, List.length_drop]; have := h.1; omega, ?_⟩
  rw [List.getElem_take, List.getElem_drop]
  congr 1
  omega
def marks47 : List S47 := [⟨99, -3, 0, -4⟩, ⟨0, 0, 12345, 0⟩]
def mcells47 : List Value := [.int .u8 99, .int .i64 (-3), .int .i64 0, .int .i64 (-4), .int .u8 0, .int .i64 0, .int .i64 12345, .int .i64 0]
theorem mcell47 (w2 : World) (j : Nat) (u : Value) (hu : mcells47[j]? = some u) : (w2.alloc (.cells mcells47.toArray 47)).cell? ((⟨w2.heap.size, 0, none⟩ : Addr).add j) = some u := by
  rw [add_plain, World.cell?_alloc_new]; simpa using hu
theorem mcells47_one : ∀ u ∈ mcells47, u.oneCell' = true := by simp [mcells47, Value.oneCell']
theorem reps_marks47 (w : World) : Reps (k47.K w) 4 marks47 mcells47 := by
  refine ⟨rfl, fun j p hj => ?_⟩
  match j, hj with
  | 0, hj => cases hj; exact k47_mk w _
  | 1, hj => cases hj; exact k47_mk w _
  | j + 2, hj => simp [marks47] at hj
theorem C_of_own47 {w w3 : World} {base g c : Nat} {l : List S47} {inner : List Value} (hR : Reps (k47.K w) 4 l inner) (h : w3.ownsRow base 47 4 (.slice (some ⟨g, 0, none⟩) (l.length + 2) c) (l.length + 2) (inner ++ mcells47)) :
    Kd.C k47 w3 (some ⟨g, 0, none⟩) (l.length + 2) (l ++ marks47) := by
  have hk : ∀ (p : S47) cs, k47.K w p cs → k47.K w3 p cs := fun p cs h => by rw [k47_open h]; exact k47_mk w3 p
  obtain ⟨A, c', he, hrow⟩ := own_reads_row (R := k47.K w3) (ps := l ++ marks47) h (Reps.app (Reps.imp_ hR hk) (reps_marks47 w3)) (by simp [marks47])
  injection he with h1 _ _
  subst h1
  exact hrow
theorem C_lent47 {w : World} {A : Option Addr} {l : List S47} (h : Kd.C k47 w A (l.length + 2) (l ++ marks47)) : Kd.C k47 w A l.length l := by
  have h' : Kd.C k47 w A (l ++ marks47).length (l ++ marks47) := by rw [List.length_append]; exact h
  have h2 := Kd.C_take (m := l.length) h' (by simp)
  simpa using h2

theorem own_set1 {w : World} {base n : Nat} {e : TypeId} {size : Nat} {v : Value} {xs : List Value} {g : Nat} (h : w.ownsRow base e size v n xs) (hne : v.ownBlock ≠ some g) (j : Nat) (u : Value) : (w.setCell ⟨g, j, none⟩ u).ownsRow base e size v n xs :=
  own_move h (fun k hk => Below.heap_setCell w ⟨g, j, none⟩ u k (by rintro rfl; exact hne hk))
theorem own_set3 {w : World} {base n : Nat} {e : TypeId} {size : Nat} {v : Value} {xs : List Value} {g : Nat} (h : w.ownsRow base e size v n xs) (hne : v.ownBlock ≠ some g) (i j k : Nat) (u u' u'' : Value) : (((w.setCell ⟨g, i, none⟩ u).setCell ⟨g, j, none⟩ u').setCell ⟨g, k, none⟩ u'').ownsRow base e size v n xs :=
  own_set1 (own_set1 (own_set1 h hne i u) hne j u') hne k u''
section
variable {P : Program} {ops : Array Oper} {rest : List Oper} {o : Oper} {a : Act} {Q : Exit → Act → World → Prop}
/-- make([]T, 0, n), the block a letter. -/
theorem make_g {W : World} (hg : o.guard = none) (l c : Operand) (t : TypeId) (hop : o.op = Op.makeSlice t l c) (base : Nat) (e : TypeId) (i : TypeInfo) (z : Value) (size : Nat) (h1 : P.underlying t = some (.slice e)) (h2 : P.info? e = some i) (h3 : i.zero = some z) (h4 : i.size = size)
    (kl kc : IntKind) (C : Int) (n : Nat) (hl : a.eval l = .int kl 0) (hc : a.eval c = .int kc C) (hC : C = (n : Int)) (b2 : i.bytes * n ≤ 281474976710656) (b3 : n ≤ maxLen) (b4 : base ≤ W.heap.size)
    (hK : ∀ g w', W.heap.size ≤ g → w'.ownsRow base e size (.slice (some ⟨g, 0, none⟩) 0 n) 0 [] → W.grownBy w' none → wpList P ops Q rest (a.put o.dst (.slice (some ⟨g, 0, none⟩) 0 n)) w') :
    wpList P ops Q (o :: rest) a W :=
  wpList_make_own W hg l c t hop base e i z size h1 h2 h3 h4 kl kc C n hl hc hC b2 b3 b4 (hK _ · (Nat.le_refl _))
end
 
def LentPost (t : ByteArray) (ps : List S61) (ns : List S47) (w : World) (e : Ending) (w' : World) : Prop :=
  ∃ A B, e = .returned (.agg #[.string t, .slice A ps.length (ps.length + 2), .slice B ns.length (ns.length + 2)]) ∧ Kd.C k61 w' A (ps.length + 2) (ps ++ marks61) ∧ Kd.C k47 w' B (ns.length + 2) (ns ++ marks47) ∧ Below w.heap.size w w'

set_option maxHeartbeats 2000000 in
theorem lent_calls (t : ByteArray) (A1 : Option Addr) (c1 : Nat) (ps : List S61) (A2 : Option Addr) (c2 : Nat) (ns : List S47) (w : World)
    (hr1 : Kd.C k61 w A1 ps.length ps) (hc1 : ps.length ≤ c1) (hn1 : A1 = none → c1 = 0) (hb1 : ps.length * 24 ≤ 140737488351232)
    (hr2 : Kd.C k47 w A2 ns.length ns) (hc2 : ns.length ≤ c2) (hn2 : A2 = none → c2 = 0) (hb2 : ns.length * 32 ≤ 140737488351232) :
    Calls Try.prog 18 #[.agg #[.string t, .slice A1 ps.length c1, .slice A2 ns.length c2]] w (LentPost t ps ns w) := by
  have hu61 := Try.underlying61
  have hu47 := Try.underlying47
  have hu27 := Try.underlying27
  have hu25 := Try.underlying25
  obtain ⟨i, hi, hz0, hz1, hz2⟩ := info_parts info61
  obtain ⟨i', hi', hz0', hz1', hz2'⟩ := info_parts info47
  obtain ⟨inner, hR, hA, hcell⟩ := row_cells61 hr1
  obtain ⟨inner', hR', hA', hcell'⟩ := row_cells47 hr2
  have HR := Aside0.mk hR
  have hlen : inner.length = ps.length * 3 := hR.1
  have HL := Aside0.mk hlen
  have HC := Aside0.mk hcell
  have HN := Aside0.mk hn1
  have HA := Aside0.mk hA
  have HY := Aside0.mk hz2
  have HI := Aside0.mk hi
  have HZ0 := Aside0.mk hz0
  have HZ1 := Aside0.mk hz1
  have HR' := Aside0.mk hR'
  have hlen' : inner'.length = ns.length * 4 := hR'.1
  have HL' := Aside0.mk hlen'
  have HC' := Aside0.mk hcell'
  have HN' := Aside0.mk hn2
  have HA' := Aside0.mk hA'
  have HY' := Aside0.mk hz2'
  have HI' := Aside0.mk hi'
  have HZ0' := Aside0.mk hz0'
  have HZ1' := Aside0.mk hz1'
  clear hR hcell hr1 hn1 hA hlen hz2 hi hz0 hz1 hR' hcell' hr2 hn2 hA' hlen' hz2' hi' hz0' hz1'
  have hl : ps.length ≤ 5864062014634 := by omega
  have hl' : ns.length ≤ 4398046510976 := by omega
  go_enter Try.func18, Try.ntmps18
  go_wp2_with (first
    | ((with_reducible refine gate_dst (N := 1) rfl ?_); refine box_event ?hg (N := 1) ?hd (cs := #[.string t, .slice A1 ps.length c1, .slice A2 ns.length c2]) (t := 27) ?hr ?_; (case hd => rfl); (case hg => rfl); (case hr => first | (go_simp; done) | (go_simp; rfl)); intro gb1 hge w1 hbox hb; have BK1 := Aside0.mk hbox; have HB := Aside0.mk hb; clear hbox hge hb; have hx0 : w1.cell? ⟨gb1, 0, none⟩ = some (.string t) := (blk_cell BK1.out 0).trans rfl; have hx1 : w1.cell? ⟨gb1, 1, none⟩ = some (.slice A1 ps.length c1) := (blk_cell BK1.out 1).trans rfl; have hx2 : w1.cell? ⟨gb1, 2, none⟩ = some (.slice A2 ns.length c2) := (blk_cell BK1.out 2).trans rfl)
    | ((with_reducible refine gate_dst (N := 2) rfl ?_); refine box_event ?hg (N := 2) ?hd (cs := #[.string ⟨#[]⟩, .slice none 0 0, .slice none 0 0]) (t := 27) ?hr ?_; (case hd => rfl); (case hg => rfl); (case hr => first | (go_simp; done) | (go_simp; rfl)); intro gb2 hge w2 hbox hb; have BK2 := Aside0.mk hbox; have GE2 := Aside0.mk (show w.heap.size ≤ gb2 by rw [hge]; exact HB.out.size); clear hx0 hx1 hx2; have n0_ := Aside0.mk (blk_below BK1.out hb); have n1_ := Aside0.mk (below_step HB.out hb); clear BK1; clear HB; have BK1 := n0_; have HB := n1_; clear n0_ n1_; clear hbox hge hb; have hx0 : w2.cell? ⟨gb1, 0, none⟩ = some (.string t) := (blk_cell BK1.out 0).trans rfl; have hx1 : w2.cell? ⟨gb1, 1, none⟩ = some (.slice A1 ps.length c1) := (blk_cell BK1.out 1).trans rfl; have hx2 : w2.cell? ⟨gb1, 2, none⟩ = some (.slice A2 ns.length c2) := (blk_cell BK1.out 2).trans rfl)
    | ((with_reducible refine gate_dst (N := 9) rfl ?_); refine make_g rfl _ _ 22 rfl w.heap.size 61 i _ 3 Try.underlying22 HI.out HZ0.out HZ1.out _ _ _ (ps.length + 2) rfl rfl (by first | rfl | (simp; done) | omega) (by rw [HY.out]; omega) (by unfold maxLen; omega) HB.out.size ?_; intro ga w3 hge hown hg; have HOa := Aside0.mk hown; have NE1ga := Aside0.mk (Nat.ne_of_lt (Nat.lt_of_lt_of_le (blk_lt BK1.out) hge)); have NE2ga := Aside0.mk (Nat.ne_of_lt (Nat.lt_of_lt_of_le (blk_lt BK2.out) hge)); have GEga := Aside0.mk (Nat.le_trans HB.out.size hge); clear hx0 hx1 hx2; have n0_ := Aside0.mk (blk_grown BK1.out hg (by simp)); have n1_ := Aside0.mk (blk_grown BK2.out hg (by simp)); have n2_ := Aside0.mk (HB.out.grown hg HB.out.size (by simp)); clear BK1; clear BK2; clear HB; have BK1 := n0_; have BK2 := n1_; have HB := n2_; clear n0_ n1_ n2_; clear hown hg hge; have hx0 : w3.cell? ⟨gb1, 0, none⟩ = some (.string t) := (blk_cell BK1.out 0).trans rfl; have hx1 : w3.cell? ⟨gb1, 1, none⟩ = some (.slice A1 ps.length c1) := (blk_cell BK1.out 1).trans rfl; have hx2 : w3.cell? ⟨gb1, 2, none⟩ = some (.slice A2 ns.length c2) := (blk_cell BK1.out 2).trans rfl)
    | ((with_reducible refine gate_dst (N := 13) rfl ?_); refine wpList_append_fits_any _ rfl _ _ 22 rfl w.heap.size 61 i 3 Try.underlying22 HI.out HZ1.out ga 0 (ps.length + 2) [] rfl HOa.out A1 ps.length c1 inner rfl HL.out (fun e => ⟨HA.out e, HN.out e⟩) (fun ad e j u hu => pw_cell_below HB.out (HC.out ad e j u hu)) (row_one61 HR.out) (by omega) ?_; intro w4 hown hg; simp only [Nat.zero_add, List.nil_append] at hown; clear HOa; have HOa := Aside0.mk hown; clear hx0 hx1 hx2; have n0_ := Aside0.mk (blk_grown BK1.out hg (by simpa using NE1ga.out)); have n1_ := Aside0.mk (blk_grown BK2.out hg (by simpa using NE2ga.out)); have n2_ := Aside0.mk (HB.out.grown hg HB.out.size (by rintro k ⟨⟩; exact GEga.out)); clear BK1; clear BK2; clear HB; have BK1 := n0_; have BK2 := n1_; have HB := n2_; clear n0_ n1_ n2_; clear hown hg; have hx0 : w4.cell? ⟨gb1, 0, none⟩ = some (.string t) := (blk_cell BK1.out 0).trans rfl; have hx1 : w4.cell? ⟨gb1, 1, none⟩ = some (.slice A1 ps.length c1) := (blk_cell BK1.out 1).trans rfl; have hx2 : w4.cell? ⟨gb1, 2, none⟩ = some (.slice A2 ns.length c2) := (blk_cell BK1.out 2).trans rfl; rw [Nat.zero_add])
    | ((with_reducible refine gate_dst (N := 18) rfl ?_); refine wpList_append_fits _ rfl _ _ 22 rfl w.heap.size 61 i 3 Try.underlying22 HI.out HZ1.out ga ps.length (ps.length + 2) inner rfl (HOa.out.alloc _) ⟨w4.heap.size, 0, none⟩ 2 2 mcells61 rfl rfl (fun j u hu => mcell61 w4 j u hu) mcells61_one (by omega) ?_; intro w5 hown hg; clear HOa; have HOa := Aside0.mk hown; clear hx0 hx1 hx2; have n0_ := Aside0.mk (blk_grown (blk_alloc BK1.out (.cells mcells61.toArray 61)) hg (by simpa using NE1ga.out)); have n1_ := Aside0.mk (blk_grown (blk_alloc BK2.out (.cells mcells61.toArray 61)) hg (by simpa using NE2ga.out)); have n2_ := Aside0.mk ((below_alloc HB.out (.cells mcells61.toArray 61)).grown hg (below_alloc HB.out (.cells mcells61.toArray 61)).size (by rintro k ⟨⟩; exact GEga.out)); clear BK1; clear BK2; clear HB; have BK1 := n0_; have BK2 := n1_; have HB := n2_; clear n0_ n1_ n2_; clear hown hg; have hx0 : w5.cell? ⟨gb1, 0, none⟩ = some (.string t) := (blk_cell BK1.out 0).trans rfl; have hx1 : w5.cell? ⟨gb1, 1, none⟩ = some (.slice A1 ps.length c1) := (blk_cell BK1.out 1).trans rfl; have hx2 : w5.cell? ⟨gb1, 2, none⟩ = some (.slice A2 ns.length c2) := (blk_cell BK1.out 2).trans rfl)
    | ((with_reducible refine gate_dst (N := 24) rfl ?_); refine make_g rfl _ _ 23 rfl w.heap.size 47 i' _ 4 Try.underlying23 HI'.out HZ0'.out HZ1'.out _ _ _ (ns.length + 2) rfl rfl (by first | rfl | (simp; done) | omega) (by rw [HY'.out]; omega) (by unfold maxLen; omega) HB.out.size ?_; intro gc w6 hge hown hg; have HOb := Aside0.mk hown; have NE1gc := Aside0.mk (Nat.ne_of_lt (Nat.lt_of_lt_of_le (blk_lt BK1.out) hge)); have NE2gc := Aside0.mk (Nat.ne_of_lt (Nat.lt_of_lt_of_le (blk_lt BK2.out) hge)); have GEgc := Aside0.mk (Nat.le_trans HB.out.size hge); have NEa := Aside0.mk (Nat.ne_of_lt (Nat.lt_of_lt_of_le (own_lt HOa.out ga rfl) hge)); clear hx0 hx1 hx2; have n0_ := Aside0.mk (blk_grown BK1.out hg (by simp)); have n1_ := Aside0.mk (blk_grown BK2.out hg (by simp)); have n2_ := Aside0.mk (HB.out.grown hg HB.out.size (by simp)); have n3_ := Aside0.mk (HOa.out.kept hg (.inr (by simp [Value.ownBlock]))); clear BK1; clear BK2; clear HB; clear HOa; have BK1 := n0_; have BK2 := n1_; have HB := n2_; have HOa := n3_; clear n0_ n1_ n2_ n3_; clear hown hg hge; have hx0 : w6.cell? ⟨gb1, 0, none⟩ = some (.string t) := (blk_cell BK1.out 0).trans rfl; have hx1 : w6.cell? ⟨gb1, 1, none⟩ = some (.slice A1 ps.length c1) := (blk_cell BK1.out 1).trans rfl; have hx2 : w6.cell? ⟨gb1, 2, none⟩ = some (.slice A2 ns.length c2) := (blk_cell BK1.out 2).trans rfl)
    | ((with_reducible refine gate_dst (N := 29) rfl ?_); refine wpList_append_fits_any _ rfl _ _ 23 rfl w.heap.size 47 i' 4 Try.underlying23 HI'.out HZ1'.out gc 0 (ns.length + 2) [] rfl HOb.out A2 ns.length c2 inner' rfl HL'.out (fun e => ⟨HA'.out e, HN'.out e⟩) (fun ad e j u hu => pw_cell_below HB.out (HC'.out ad e j u hu)) (row_one47 HR'.out) (by omega) ?_; intro w7 hown hg; simp only [Nat.zero_add, List.nil_append] at hown; clear HOb; have HOb := Aside0.mk hown; clear hx0 hx1 hx2; have n0_ := Aside0.mk (blk_grown BK1.out hg (by simpa using NE1gc.out)); have n1_ := Aside0.mk (blk_grown BK2.out hg (by simpa using NE2gc.out)); have n2_ := Aside0.mk (HB.out.grown hg HB.out.size (by rintro k ⟨⟩; exact GEgc.out)); have n3_ := Aside0.mk (HOa.out.kept hg (.inr (by simpa [Value.ownBlock] using NEa.out))); clear BK1; clear BK2; clear HB; clear HOa; have BK1 := n0_; have BK2 := n1_; have HB := n2_; have HOa := n3_; clear n0_ n1_ n2_ n3_; clear hown hg; have hx0 : w7.cell? ⟨gb1, 0, none⟩ = some (.string t) := (blk_cell BK1.out 0).trans rfl; have hx1 : w7.cell? ⟨gb1, 1, none⟩ = some (.slice A1 ps.length c1) := (blk_cell BK1.out 1).trans rfl; have hx2 : w7.cell? ⟨gb1, 2, none⟩ = some (.slice A2 ns.length c2) := (blk_cell BK1.out 2).trans rfl; rw [Nat.zero_add])
    | ((with_reducible refine gate_dst (N := 34) rfl ?_); refine wpList_append_fits _ rfl _ _ 23 rfl w.heap.size 47 i' 4 Try.underlying23 HI'.out HZ1'.out gc ns.length (ns.length + 2) inner' rfl (HOb.out.alloc _) ⟨w7.heap.size, 0, none⟩ 2 2 mcells47 rfl rfl (fun j u hu => mcell47 w7 j u hu) mcells47_one (by omega) ?_; intro w8 hown hg; clear HOb; have HOb := Aside0.mk hown; clear hx0 hx1 hx2; have n0_ := Aside0.mk (blk_grown (blk_alloc BK1.out (.cells mcells47.toArray 47)) hg (by simpa using NE1gc.out)); have n1_ := Aside0.mk (blk_grown (blk_alloc BK2.out (.cells mcells47.toArray 47)) hg (by simpa using NE2gc.out)); have n2_ := Aside0.mk ((below_alloc HB.out (.cells mcells47.toArray 47)).grown hg (below_alloc HB.out (.cells mcells47.toArray 47)).size (by rintro k ⟨⟩; exact GEgc.out)); have n3_ := Aside0.mk ((HOa.out.alloc (.cells mcells47.toArray 47)).kept hg (.inr (by simpa [Value.ownBlock] using NEa.out))); clear BK1; clear BK2; clear HB; clear HOa; have BK1 := n0_; have BK2 := n1_; have HB := n2_; have HOa := n3_; clear n0_ n1_ n2_ n3_; clear hown hg; have hx0 : w8.cell? ⟨gb1, 0, none⟩ = some (.string t) := (blk_cell BK1.out 0).trans rfl; have hx1 : w8.cell? ⟨gb1, 1, none⟩ = some (.slice A1 ps.length c1) := (blk_cell BK1.out 1).trans rfl; have hx2 : w8.cell? ⟨gb1, 2, none⟩ = some (.slice A2 ns.length c2) := (blk_cell BK1.out 2).trans rfl; have hy0 : w8.cell? ⟨gb2, 0, none⟩ = some (.string ⟨#[]⟩) := (blk_cell BK2.out 0).trans rfl; have hz0 := blk_frozen BK2.out 0; have hy1 : w8.cell? ⟨gb2, 1, none⟩ = some (.slice none 0 0) := (blk_cell BK2.out 1).trans rfl; have hz1 := blk_frozen BK2.out 1; have hy2 : w8.cell? ⟨gb2, 2, none⟩ = some (.slice none 0 0) := (blk_cell BK2.out 2).trans rfl; have hz2 := blk_frozen BK2.out 2))
  go_region
  go_wp2
  have hfin : ((((w8.setCell ⟨gb2, 0, none⟩ (.string t)).setCell ⟨gb2, 1, none⟩ (.slice (some ⟨ga, 0, none⟩) ps.length (ps.length + 2))).setCell ⟨gb2, 2, none⟩ (.slice (some ⟨gc, 0, none⟩) ns.length (ns.length + 2))).drew).heap[gb2]? = some (.cells #[.string t, .slice (some ⟨ga, 0, none⟩) ps.length (ps.length + 2), .slice (some ⟨gc, 0, none⟩) ns.length (ns.length + 2)] 27 (0, 0)) := by
    refine blk_drew ?_
    refine blk_put (cs := #[.string t, .slice (some ⟨ga, 0, none⟩) ps.length (ps.length + 2), .slice none 0 0]) ?_ 2 _ rfl
    refine blk_put (cs := #[.string t, .slice none 0 0, .slice none 0 0]) ?_ 1 _ rfl
    refine blk_put (cs := #[.string ⟨#[]⟩, .slice none 0 0, .slice none 0 0]) ?_ 0 _ rfl
    exact BK2.out
  refine bodyPost_ret (results_cell_row rfl _ _ gb2 27 #[.string t, .slice (some ⟨ga, 0, none⟩) ps.length (ps.length + 2), .slice (some ⟨gc, 0, none⟩) ns.length (ns.length + 2)] (0, 0) _ rfl hfin Try.underlying27 rfl (by kernel_rfl)) rfl ?_
  have hb8 : Below w.heap.size w ((((w8.setCell ⟨gb2, 0, none⟩ (.string t)).setCell ⟨gb2, 1, none⟩ (.slice (some ⟨ga, 0, none⟩) ps.length (ps.length + 2))).setCell ⟨gb2, 2, none⟩ (.slice (some ⟨gc, 0, none⟩) ns.length (ns.length + 2))).drew) := by
    refine below_drew ?_
    refine below_set ?_ GE2.out
    refine below_set ?_ GE2.out
    refine below_set ?_ GE2.out
    exact HB.out
  have na : (some gb2 : Option Nat) ≠ some ga := by simpa using NE2ga.out
  have nc : (some gb2 : Option Nat) ≠ some gc := by simpa using NE2gc.out
  have ra := (own_set3 HOa.out (by simpa [Value.ownBlock] using Ne.symm na) 0 1 2 (.string t) (.slice (some ⟨ga, 0, none⟩) ps.length (ps.length + 2)) (.slice (some ⟨gc, 0, none⟩) ns.length (ns.length + 2))).drew
  have rc := (own_set3 HOb.out (by simpa [Value.ownBlock] using Ne.symm nc) 0 1 2 (.string t) (.slice (some ⟨ga, 0, none⟩) ps.length (ps.length + 2)) (.slice (some ⟨gc, 0, none⟩) ns.length (ns.length + 2))).drew
  exact ⟨_, _, rfl, C_of_own61 HR.out ra, C_of_own47 HR'.out rc, hb8⟩
end Go.Proofs.Ytodldpdnhcafpaa.H

-- A text of this session's own program (wip/myprint.sh over a changed print tool): functions and their walks
namespace Go.Proofs.Ytodldpdnhcafpaa.F
open Go.RowKit Go.Proofs.YtodldpdnhcafpaaW.PrintWords Go.Proofs.YtodldpdnhcafpaaW.PrintLast Go.Proofs.YtodldpdnhcafpaaW.PrintMore
attribute [local go_sem] max2_int min2_int max_two min_two max_three min_three max_four min_four   -- for this text's walks alone
set_option linter.unusedVariables false
set_option linter.unusedSimpArgs false

theorem eqA61 (d : Nat) (w : World) (x0 y0 : Int) (x1 y1 : Int) (x2 y2 : Int) :
    (Op.equalIn (d + 2) 61 (.agg #[.int .u8 x0, .int .i64 x1, .int .i64 x2]) (.agg #[.int .u8 y0, .int .i64 y1, .int .i64 y2])).run Try.prog w = .ok (x0 == y0 && (x1 == y1 && (x2 == y2))) w := by
  refine eqA_of Try.underlying61 (by kernel_rfl) ?_
  refine eqf_cons (by rfl) (by go_simp; rfl) (by go_simp; rfl) (by go_simp) ?_
  refine eqf_cons (by rfl) (by go_simp; rfl) (by go_simp; rfl) (by go_simp) ?_
  exact eqf_last (by rfl) (by go_simp; rfl) (by go_simp; rfl) (by go_simp)
end Go.Proofs.Ytodldpdnhcafpaa.F

-- A text of this session's own program (wip/myprint.sh over a changed print tool): functions and their walks
namespace Go.Proofs.Ytodldpdnhcafpaa.F
open Go.RowKit Go.Proofs.YtodldpdnhcafpaaW.PrintWords Go.Proofs.YtodldpdnhcafpaaW.PrintLast Go.Proofs.YtodldpdnhcafpaaW.PrintMore
attribute [local go_sem] max2_int min2_int max_two min_two max_three min_three max_four min_four   -- for this text's walks alone
set_option linter.unusedVariables false
set_option linter.unusedSimpArgs false

attribute [local go_sem high] eqA61
/-! ### monikerplain_SameTokens: function 46 -/
def monikerplain_SameTokens.l0 : Nat → List (S61) → List (S61) → Int → Int → Option (Bool)
  | 0, _, _, _, _ => none
  | k + 1, x0, x1, x12, x13 => if x13 < x12 then (if 0 ≤ x13 then (if x13 < (x0.length : Int) then (if x13 < (x1.length : Int) then (if (!(((rd_T61 x0 x13).f0) == ((rd_T61 x1 x13).f0)) || (!(((rd_T61 x0 x13).f1) == ((rd_T61 x1 x13).f1)) || (!(((rd_T61 x0 x13).f2) == ((rd_T61 x1 x13).f2))))) = true then (some false) else (monikerplain_SameTokens.l0 k x0 x1 x12 (wrap64 (x13 + 1)))) else (none)) else (none)) else (none)) else (some true)
def monikerplain_SameTokens.f (k : Nat) (l0 : List (S61)) (l1 : List (S61)) : Option (Bool) := if (l0.length : Int) = (l1.length : Int) then (monikerplain_SameTokens.l0 k l0 l1 (l0.length : Int) 0) else (some false)
set_option maxHeartbeats 8000000 in
set_option maxRecDepth 100000 in
theorem monikerplain_SameTokens.calls (k : Nat) (A0 : Option Addr) (c0 : Nat) (l0 : List (S61)) (A1 : Option Addr) (c1 : Nat) (l1 : List (S61)) (r : Bool) (w : World) (hr0 : Kd.C k61 w A0 l0.length l0) (hc0 : l0.length ≤ c0) (hr1 : Kd.C k61 w A1 l1.length l1) (hc1 : l1.length ≤ c1) (h : monikerplain_SameTokens.f k l0 l1 = some r) :
    Calls Try.prog 46 #[.slice A0 l0.length c0, .slice A1 l1.length c1] w fun e w' => e = .returned (.bool r) ∧ Drawn0 w w' := by
  have hu61 := Try.underlying61
  have HR0 := Aside0.mk hr0
  have HC0 := Aside0.mk hc0
  clear hr0 hc0
  have HR1 := Aside0.mk hr1
  have HC1 := Aside0.mk hc1
  clear hr1 hc1
  have H : (if (l0.length : Int) = (l1.length : Int) then (monikerplain_SameTokens.l0 k l0 l1 (l0.length : Int) 0) else (some false)) = some r := h
  clear h
  by_cases c3 : (l0.length : Int) = (l1.length : Int)
  · rw [if_pos c3] at H
    have c3b0 : ((l0.length : Int) == (l1.length : Int)) = true := beq_iff_eq.mpr c3
    have c3b1 : ((l0.length : Int) != (l1.length : Int)) = false := bne_eq_false_iff_eq.mpr c3
    have c3b2 : (l0.length == l1.length) = true := by first | simpa using c3 | (simp at c3 ⊢; omega)
    clear c3
    have H' := Aside0.mk H
    clear H
    go_enter Try.func46, Try.ntmps46
    go_wp2
    repeat (go_quiet (fail); try go_wp2)
    go_loopg [13] k (fun kq v13 w' => ∃ (x13_1 : Int), v13 = .int .i64 x13_1 ∧ Aside0 (monikerplain_SameTokens.l0 kq l0 l1 (l0.length : Int) x13_1 = some r) ∧ Aside0 (kq ≤ k) ∧ Drawn0 w w')
    case atStart => exact ⟨(0), (by first | rfl | (simp; done) | (simp [*]; done)), H', ⟨Nat.le_refl _⟩, by repeat (first | exact Drawn0.refl _ | apply Drawn0.step)⟩
    case round =>
      clear H'
      try clear c1
      try clear p2
      try clear c3
      try clear c3b0
      try clear c3b1
      try clear c3b2
      obtain ⟨x13_1, rfl, HA, HK1, ⟨m1, rfl⟩⟩ := hrel
      cases gk with
      | zero => exact absurd HA.out (by simp [monikerplain_SameTokens.l0])
      | succ k1 =>
        have H := HA.out
        clear HA
        simp only [monikerplain_SameTokens.l0] at H
        by_cases c4 : x13_1 < (l0.length : Int)
        · rw [if_pos c4] at H
          have c4b0 : decide (x13_1 < (l0.length : Int)) = true := decide_eq_true c4
          clear c4
          by_cases c5 : 0 ≤ x13_1
          · rw [if_pos c5] at H
            have c5b0 : decide (0 ≤ x13_1) = true := decide_eq_true c5
            clear c5
            by_cases c6 : x13_1 < (l0.length : Int)
            · rw [if_pos c6] at H
              have c6b0 : decide (x13_1 < (l0.length : Int)) = true := decide_eq_true c6
              clear c6
              by_cases c7 : x13_1 < (l1.length : Int)
              · rw [if_pos c7] at H
                have c7b0 : decide (x13_1 < (l1.length : Int)) = true := decide_eq_true c7
                clear c7
                by_cases c8 : (!(((rd_T61 l0 x13_1).f0) == ((rd_T61 l1 x13_1).f0)) || (!(((rd_T61 l0 x13_1).f1) == ((rd_T61 l1 x13_1).f1)) || (!(((rd_T61 l0 x13_1).f2) == ((rd_T61 l1 x13_1).f2))))) = true
                · rw [if_pos c8] at H
                  have c8b0 : (!(((rd_T61 l0 x13_1).f0) == ((rd_T61 l1 x13_1).f0)) || (!(((rd_T61 l0 x13_1).f1) == ((rd_T61 l1 x13_1).f1)) || (!(((rd_T61 l0 x13_1).f2) == ((rd_T61 l1 x13_1).f2))))) = true := c8
                  clear c8
                  obtain rfl := Option.some.inj H
                  have p145 : 0 ≤ (x13_1 : Int) := of_decide_eq_true (by first | (with_reducible assumption) | assumption)
                  have q145 : x13_1 < (l0.length : Int) := of_decide_eq_true (by first | (with_reducible assumption) | assumption)
                  obtain ⟨ad145, e145, hx145_0, hx145_1, hx145_2⟩ := at_T61 HR0.out x13_1 p145 q145
                  cases e145
                  replace p145 := eq_true p145
                  replace q145 := eq_true q145
                  have p146 : 0 ≤ (x13_1 : Int) := of_decide_eq_true (by first | (with_reducible assumption) | assumption)
                  have q146 : x13_1 < (l1.length : Int) := of_decide_eq_true (by first | (with_reducible assumption) | assumption)
                  obtain ⟨ad146, e146, hx146_0, hx146_1, hx146_2⟩ := at_T61 HR1.out x13_1 p146 q146
                  cases e146
                  replace p146 := eq_true p146
                  replace q146 := eq_true q146
                  go_wp2
                  repeat (go_quiet (fail); try go_wp2)
                  go_ret
                  exact ⟨by first | rfl | (simp; done) | (simp [*]; done), by repeat (first | exact Drawn0.refl _ | apply Drawn0.step)⟩
                · rw [if_neg c8] at H
                  have c8b0 : (!(((rd_T61 l0 x13_1).f0) == ((rd_T61 l1 x13_1).f0)) || (!(((rd_T61 l0 x13_1).f1) == ((rd_T61 l1 x13_1).f1)) || (!(((rd_T61 l0 x13_1).f2) == ((rd_T61 l1 x13_1).f2))))) = false := by simpa using c8
                  clear c8
                  have H' := Aside0.mk H
                  clear H
                  have p145 : 0 ≤ (x13_1 : Int) := of_decide_eq_true (by first | (with_reducible assumption) | assumption)
                  have q145 : x13_1 < (l0.length : Int) := of_decide_eq_true (by first | (with_reducible assumption) | assumption)
                  obtain ⟨ad145, e145, hx145_0, hx145_1, hx145_2⟩ := at_T61 HR0.out x13_1 p145 q145
                  cases e145
                  replace p145 := eq_true p145
                  replace q145 := eq_true q145
                  have p146 : 0 ≤ (x13_1 : Int) := of_decide_eq_true (by first | (with_reducible assumption) | assumption)
                  have q146 : x13_1 < (l1.length : Int) := of_decide_eq_true (by first | (with_reducible assumption) | assumption)
                  obtain ⟨ad146, e146, hx146_0, hx146_1, hx146_2⟩ := at_T61 HR1.out x13_1 p146 q146
                  cases e146
                  replace p146 := eq_true p146
                  replace q146 := eq_true q146
                  go_wp2
                  repeat (go_quiet (fail); try go_wp2)
                  go_roundg k1
                  case measure => have := HK1.out; omega
                  case rel => exact ⟨(wrap64 (x13_1 + 1)), (by first | rfl | (simp; done) | (simp [*]; done)), H', ⟨by have := HK1.out; omega⟩, by repeat (first | exact Drawn0.refl _ | apply Drawn0.step)⟩
              · rw [if_neg c7] at H
                exact absurd H (by simp)
            · rw [if_neg c6] at H
              exact absurd H (by simp)
          · rw [if_neg c5] at H
            exact absurd H (by simp)
        · rw [if_neg c4] at H
          have c4b0 : decide (x13_1 < (l0.length : Int)) = false := decide_eq_false c4
          clear c4
          obtain rfl := Option.some.inj H
          go_wp2
          repeat (go_quiet (fail); try go_wp2)
          go_ret
          exact ⟨by first | rfl | (simp; done) | (simp [*]; done), by repeat (first | exact Drawn0.refl _ | apply Drawn0.step)⟩
  · rw [if_neg c3] at H
    have c3b0 : ((l0.length : Int) == (l1.length : Int)) = false := beq_eq_false_iff_ne.mpr c3
    have c3b1 : ((l0.length : Int) != (l1.length : Int)) = true := bne_iff_ne.mpr c3
    have c3b2 : (l0.length == l1.length) = false := by first | simpa using c3 | (simp at c3 ⊢; omega)
    obtain rfl := Option.some.inj H
    go_enter Try.func46, Try.ntmps46
    go_wp2
    repeat (go_quiet (fail); try go_wp2)
    go_ret
    exact ⟨by first | rfl | (simp; done) | (simp [*]; done), by repeat (first | exact Drawn0.refl _ | apply Drawn0.step)⟩

end Go.Proofs.Ytodldpdnhcafpaa.F

-- A text of this session's own program (wip/myprint.sh over a changed print tool): functions and their walks
namespace Go.Proofs.Ytodldpdnhcafpaa.F
open Go.RowKit Go.Proofs.YtodldpdnhcafpaaW.PrintWords Go.Proofs.YtodldpdnhcafpaaW.PrintLast Go.Proofs.YtodldpdnhcafpaaW.PrintMore
attribute [local go_sem] max2_int min2_int max_two min_two max_three min_three max_four min_four   -- for this text's walks alone
set_option linter.unusedVariables false
set_option linter.unusedSimpArgs false

theorem eqA47 (d : Nat) (w : World) (x0 y0 : Int) (x1 y1 : Int) (x2 y2 : Int) (x3 y3 : Int) :
    (Op.equalIn (d + 2) 47 (.agg #[.int .u8 x0, .int .i64 x1, .int .i64 x2, .int .i64 x3]) (.agg #[.int .u8 y0, .int .i64 y1, .int .i64 y2, .int .i64 y3])).run Try.prog w = .ok (x0 == y0 && (x1 == y1 && (x2 == y2 && (x3 == y3)))) w := by
  refine eqA_of Try.underlying47 (by kernel_rfl) ?_
  refine eqf_cons (by rfl) (by go_simp; rfl) (by go_simp; rfl) (by go_simp) ?_
  refine eqf_cons (by rfl) (by go_simp; rfl) (by go_simp; rfl) (by go_simp) ?_
  refine eqf_cons (by rfl) (by go_simp; rfl) (by go_simp; rfl) (by go_simp) ?_
  exact eqf_last (by rfl) (by go_simp; rfl) (by go_simp; rfl) (by go_simp)
end Go.Proofs.Ytodldpdnhcafpaa.F

-- A text of this session's own program (wip/myprint.sh over a changed print tool): functions and their walks
namespace Go.Proofs.Ytodldpdnhcafpaa.F
open Go.RowKit Go.Proofs.YtodldpdnhcafpaaW.PrintWords Go.Proofs.YtodldpdnhcafpaaW.PrintLast Go.Proofs.YtodldpdnhcafpaaW.PrintMore
attribute [local go_sem] max2_int min2_int max_two min_two max_three min_three max_four min_four   -- for this text's walks alone
set_option linter.unusedVariables false
set_option linter.unusedSimpArgs false

attribute [local go_sem high] eqA47
/-! ### monikerplain_SameTree: function 47 -/
def monikerplain_SameTree.l0 : Nat → Int → Int → List (S47) → List (S47) → Option (Bool)
  | 0, _, _, _, _ => none
  | k + 1, x15, x16, x148000, x149000 => if x16 < x15 then (if 0 ≤ x16 then (if x16 < (x148000.length : Int) then (if x16 < (x149000.length : Int) then (if (!(((rd_T47 x148000 x16).f0) == ((rd_T47 x149000 x16).f0)) || (!(((rd_T47 x148000 x16).f1) == ((rd_T47 x149000 x16).f1)) || (!(((rd_T47 x148000 x16).f2) == ((rd_T47 x149000 x16).f2)) || (!(((rd_T47 x148000 x16).f3) == ((rd_T47 x149000 x16).f3)))))) = true then (some false) else (monikerplain_SameTree.l0 k x15 (wrap64 (x16 + 1)) x148000 x149000)) else (none)) else (none)) else (none)) else (some true)
def monikerplain_SameTree.f (k : Nat) (l0_0 : List (S47)) (l1_0 : List (S47)) : Option (Bool) := if (l0_0.length : Int) = (l1_0.length : Int) then (monikerplain_SameTree.l0 k (l0_0.length : Int) 0 l0_0 l1_0) else (some false)
set_option maxHeartbeats 8000000 in
set_option maxRecDepth 100000 in
theorem monikerplain_SameTree.calls (k : Nat) (A0_0 : Option Addr) (c0_0 : Nat) (l0_0 : List (S47)) (A1_0 : Option Addr) (c1_0 : Nat) (l1_0 : List (S47)) (r : Bool) (w : World) (hr0_0 : Kd.C k47 w A0_0 l0_0.length l0_0) (hc0_0 : l0_0.length ≤ c0_0) (hr1_0 : Kd.C k47 w A1_0 l1_0.length l1_0) (hc1_0 : l1_0.length ≤ c1_0) (h : monikerplain_SameTree.f k l0_0 l1_0 = some r) :
    Calls Try.prog 47 #[.agg #[.slice A0_0 l0_0.length c0_0], .agg #[.slice A1_0 l1_0.length c1_0]] w fun e w' => e = .returned (.bool r) ∧ Below w.heap.size w w' := by
  have hu25 := Try.underlying25
  have hu47 := Try.underlying47
  have HR0_0 := Aside0.mk hr0_0
  have HC0_0 := Aside0.mk hc0_0
  clear hr0_0 hc0_0
  have HR1_0 := Aside0.mk hr1_0
  have HC1_0 := Aside0.mk hc1_0
  clear hr1_0 hc1_0
  have HB := Aside0.mk (Below.refl w.heap.size w)
  have H : (if (l0_0.length : Int) = (l1_0.length : Int) then (monikerplain_SameTree.l0 k (l0_0.length : Int) 0 l0_0 l1_0) else (some false)) = some r := h
  clear h
  by_cases c3 : (l0_0.length : Int) = (l1_0.length : Int)
  · rw [if_pos c3] at H
    have c3b0 : ((l0_0.length : Int) == (l1_0.length : Int)) = true := beq_iff_eq.mpr c3
    have c3b1 : ((l0_0.length : Int) != (l1_0.length : Int)) = false := bne_eq_false_iff_eq.mpr c3
    have c3b2 : (l0_0.length == l1_0.length) = true := by first | simpa using c3 | (simp at c3 ⊢; omega)
    clear c3
    have H' := Aside0.mk H
    clear H
    go_enter Try.func47, Try.ntmps47
    go_wp2_with (first | ((with_reducible refine gate_dst (N := 2) rfl ?_); refine box_event ?hg (N := 2) ?hd (cs := #[.slice A0_0 l0_0.length c0_0]) (t := 25) ?hr ?_; (case hd => rfl); (case hg => rfl); (case hr => first | (go_simp; done) | (go_simp; rfl)); intro gb147 hg w4 hbox hb; have n0_ := Aside0.mk (below_step (by repeat (first | (with_reducible first | exact HB.out | apply below_alloc | apply pw_below_drewN | apply below_drew1) | exact HB.out)) hb); have n1_ := Aside0.mk (hbox); have n2_ := Aside0.mk ((by rw [hg]; exact (below_size (by repeat (first | (with_reducible first | exact HB.out | apply below_alloc | apply pw_below_drewN | apply below_drew1) | exact HB.out))) : w.heap.size ≤ gb147)); have n3_ := Aside0.mk ((by rw [hg]; exact (below_size (by repeat (first | (with_reducible first | exact HB.out | apply below_alloc | apply pw_below_drewN | apply below_drew1) | exact HB.out))) : w.heap.size ≤ gb147)); clear HB; have HB := n0_; have BK147 := n1_; have GW147 := n2_; have GE147 := n3_; clear n0_ n1_ n2_ n3_; clear hb hbox hg) | ((with_reducible refine gate_dst (N := 3) rfl ?_); refine box_event ?hg (N := 3) ?hd (cs := #[.slice A1_0 l1_0.length c1_0]) (t := 25) ?hr ?_; (case hd => rfl); (case hg => rfl); (case hr => first | (go_simp; done) | (go_simp; rfl)); intro gb148 hg w5 hbox hb; have n0_ := Aside0.mk (blk_below (g := gb147) (o := .cells #[.slice A0_0 l0_0.length c0_0] 25 (0, 0)) (by (with_reducible repeat (first | refine blk_drewN ?_ _ | refine blk_drew ?_ | refine blk_alloc ?_ _)); exact BK147.out) hb); have n1_ := Aside0.mk (below_step (by repeat (first | (with_reducible first | exact HB.out | apply below_alloc | apply pw_below_drewN | apply below_drew1 | refine below_set ?_ GE147.out) | exact HB.out)) hb); have n2_ := Aside0.mk (hbox); have n3_ := Aside0.mk ((by rw [hg]; exact (below_size (by repeat (first | (with_reducible first | exact HB.out | apply below_alloc | apply pw_below_drewN | apply below_drew1 | refine below_set ?_ GE147.out) | exact HB.out))) : w.heap.size ≤ gb148)); have n4_ := Aside0.mk ((by rw [hg]; exact (below_size (by repeat (first | (with_reducible first | exact HB.out | apply below_alloc | apply pw_below_drewN | apply below_drew1 | refine below_set ?_ GE147.out) | exact HB.out))) : w.heap.size ≤ gb148)); have n5_ := Aside0.mk ((by rw [hg]; exact Nat.ne_of_lt (blk_lt (g := gb147) (o := .cells #[.slice A0_0 l0_0.length c0_0] 25 (0, 0)) (by (with_reducible repeat (first | refine blk_drewN ?_ _ | refine blk_drew ?_ | refine blk_alloc ?_ _)); exact BK147.out)) : gb147 ≠ gb148)); have n6_ := Aside0.mk ((by rw [hg]; exact Nat.ne_of_gt (blk_lt (g := gb147) (o := .cells #[.slice A0_0 l0_0.length c0_0] 25 (0, 0)) (by (with_reducible repeat (first | refine blk_drewN ?_ _ | refine blk_drew ?_ | refine blk_alloc ?_ _)); exact BK147.out)) : gb148 ≠ gb147)); clear BK147; clear HB; have BK147 := n0_; have HB := n1_; have BK148 := n2_; have GW148 := n3_; have GE148 := n4_; have NB147_148 := n5_; have NB148_147 := n6_; clear n0_ n1_ n2_ n3_ n4_ n5_ n6_; clear hb hbox hg; have hnb6 := NB147_148.out; have hnc6 := NB148_147.out; have hcz7_0 : w5.cell? ⟨gb147, 0, none⟩ = some (.slice A0_0 l0_0.length c0_0) := (blk_cell BK147.out 0).trans rfl; have hfz7_0 := blk_frozen BK147.out 0; have hcz8_0 : w5.cell? ⟨gb148, 0, none⟩ = some (.slice A1_0 l1_0.length c1_0) := (blk_cell BK148.out 0).trans rfl; have hfz8_0 := blk_frozen BK148.out 0))
    repeat (go_quiet (first | ((with_reducible refine gate_dst (N := 2) rfl ?_); refine box_event ?hg (N := 2) ?hd (cs := #[.slice A0_0 l0_0.length c0_0]) (t := 25) ?hr ?_; (case hd => rfl); (case hg => rfl); (case hr => first | (go_simp; done) | (go_simp; rfl)); intro gb147 hg w4 hbox hb; have n0_ := Aside0.mk (below_step (by repeat (first | (with_reducible first | exact HB.out | apply below_alloc | apply pw_below_drewN | apply below_drew1) | exact HB.out)) hb); have n1_ := Aside0.mk (hbox); have n2_ := Aside0.mk ((by rw [hg]; exact (below_size (by repeat (first | (with_reducible first | exact HB.out | apply below_alloc | apply pw_below_drewN | apply below_drew1) | exact HB.out))) : w.heap.size ≤ gb147)); have n3_ := Aside0.mk ((by rw [hg]; exact (below_size (by repeat (first | (with_reducible first | exact HB.out | apply below_alloc | apply pw_below_drewN | apply below_drew1) | exact HB.out))) : w.heap.size ≤ gb147)); clear HB; have HB := n0_; have BK147 := n1_; have GW147 := n2_; have GE147 := n3_; clear n0_ n1_ n2_ n3_; clear hb hbox hg) | ((with_reducible refine gate_dst (N := 3) rfl ?_); refine box_event ?hg (N := 3) ?hd (cs := #[.slice A1_0 l1_0.length c1_0]) (t := 25) ?hr ?_; (case hd => rfl); (case hg => rfl); (case hr => first | (go_simp; done) | (go_simp; rfl)); intro gb148 hg w5 hbox hb; have n0_ := Aside0.mk (blk_below (g := gb147) (o := .cells #[.slice A0_0 l0_0.length c0_0] 25 (0, 0)) (by (with_reducible repeat (first | refine blk_drewN ?_ _ | refine blk_drew ?_ | refine blk_alloc ?_ _)); exact BK147.out) hb); have n1_ := Aside0.mk (below_step (by repeat (first | (with_reducible first | exact HB.out | apply below_alloc | apply pw_below_drewN | apply below_drew1 | refine below_set ?_ GE147.out) | exact HB.out)) hb); have n2_ := Aside0.mk (hbox); have n3_ := Aside0.mk ((by rw [hg]; exact (below_size (by repeat (first | (with_reducible first | exact HB.out | apply below_alloc | apply pw_below_drewN | apply below_drew1 | refine below_set ?_ GE147.out) | exact HB.out))) : w.heap.size ≤ gb148)); have n4_ := Aside0.mk ((by rw [hg]; exact (below_size (by repeat (first | (with_reducible first | exact HB.out | apply below_alloc | apply pw_below_drewN | apply below_drew1 | refine below_set ?_ GE147.out) | exact HB.out))) : w.heap.size ≤ gb148)); have n5_ := Aside0.mk ((by rw [hg]; exact Nat.ne_of_lt (blk_lt (g := gb147) (o := .cells #[.slice A0_0 l0_0.length c0_0] 25 (0, 0)) (by (with_reducible repeat (first | refine blk_drewN ?_ _ | refine blk_drew ?_ | refine blk_alloc ?_ _)); exact BK147.out)) : gb147 ≠ gb148)); have n6_ := Aside0.mk ((by rw [hg]; exact Nat.ne_of_gt (blk_lt (g := gb147) (o := .cells #[.slice A0_0 l0_0.length c0_0] 25 (0, 0)) (by (with_reducible repeat (first | refine blk_drewN ?_ _ | refine blk_drew ?_ | refine blk_alloc ?_ _)); exact BK147.out)) : gb148 ≠ gb147)); clear BK147; clear HB; have BK147 := n0_; have HB := n1_; have BK148 := n2_; have GW148 := n3_; have GE148 := n4_; have NB147_148 := n5_; have NB148_147 := n6_; clear n0_ n1_ n2_ n3_ n4_ n5_ n6_; clear hb hbox hg; have hnb6 := NB147_148.out; have hnc6 := NB148_147.out; have hcz7_0 : w5.cell? ⟨gb147, 0, none⟩ = some (.slice A0_0 l0_0.length c0_0) := (blk_cell BK147.out 0).trans rfl; have hfz7_0 := blk_frozen BK147.out 0; have hcz8_0 : w5.cell? ⟨gb148, 0, none⟩ = some (.slice A1_0 l1_0.length c1_0) := (blk_cell BK148.out 0).trans rfl; have hfz8_0 := blk_frozen BK148.out 0)); try go_wp2_with (first | ((with_reducible refine gate_dst (N := 2) rfl ?_); refine box_event ?hg (N := 2) ?hd (cs := #[.slice A0_0 l0_0.length c0_0]) (t := 25) ?hr ?_; (case hd => rfl); (case hg => rfl); (case hr => first | (go_simp; done) | (go_simp; rfl)); intro gb147 hg w4 hbox hb; have n0_ := Aside0.mk (below_step (by repeat (first | (with_reducible first | exact HB.out | apply below_alloc | apply pw_below_drewN | apply below_drew1) | exact HB.out)) hb); have n1_ := Aside0.mk (hbox); have n2_ := Aside0.mk ((by rw [hg]; exact (below_size (by repeat (first | (with_reducible first | exact HB.out | apply below_alloc | apply pw_below_drewN | apply below_drew1) | exact HB.out))) : w.heap.size ≤ gb147)); have n3_ := Aside0.mk ((by rw [hg]; exact (below_size (by repeat (first | (with_reducible first | exact HB.out | apply below_alloc | apply pw_below_drewN | apply below_drew1) | exact HB.out))) : w.heap.size ≤ gb147)); clear HB; have HB := n0_; have BK147 := n1_; have GW147 := n2_; have GE147 := n3_; clear n0_ n1_ n2_ n3_; clear hb hbox hg) | ((with_reducible refine gate_dst (N := 3) rfl ?_); refine box_event ?hg (N := 3) ?hd (cs := #[.slice A1_0 l1_0.length c1_0]) (t := 25) ?hr ?_; (case hd => rfl); (case hg => rfl); (case hr => first | (go_simp; done) | (go_simp; rfl)); intro gb148 hg w5 hbox hb; have n0_ := Aside0.mk (blk_below (g := gb147) (o := .cells #[.slice A0_0 l0_0.length c0_0] 25 (0, 0)) (by (with_reducible repeat (first | refine blk_drewN ?_ _ | refine blk_drew ?_ | refine blk_alloc ?_ _)); exact BK147.out) hb); have n1_ := Aside0.mk (below_step (by repeat (first | (with_reducible first | exact HB.out | apply below_alloc | apply pw_below_drewN | apply below_drew1 | refine below_set ?_ GE147.out) | exact HB.out)) hb); have n2_ := Aside0.mk (hbox); have n3_ := Aside0.mk ((by rw [hg]; exact (below_size (by repeat (first | (with_reducible first | exact HB.out | apply below_alloc | apply pw_below_drewN | apply below_drew1 | refine below_set ?_ GE147.out) | exact HB.out))) : w.heap.size ≤ gb148)); have n4_ := Aside0.mk ((by rw [hg]; exact (below_size (by repeat (first | (with_reducible first | exact HB.out | apply below_alloc | apply pw_below_drewN | apply below_drew1 | refine below_set ?_ GE147.out) | exact HB.out))) : w.heap.size ≤ gb148)); have n5_ := Aside0.mk ((by rw [hg]; exact Nat.ne_of_lt (blk_lt (g := gb147) (o := .cells #[.slice A0_0 l0_0.length c0_0] 25 (0, 0)) (by (with_reducible repeat (first | refine blk_drewN ?_ _ | refine blk_drew ?_ | refine blk_alloc ?_ _)); exact BK147.out)) : gb147 ≠ gb148)); have n6_ := Aside0.mk ((by rw [hg]; exact Nat.ne_of_gt (blk_lt (g := gb147) (o := .cells #[.slice A0_0 l0_0.length c0_0] 25 (0, 0)) (by (with_reducible repeat (first | refine blk_drewN ?_ _ | refine blk_drew ?_ | refine blk_alloc ?_ _)); exact BK147.out)) : gb148 ≠ gb147)); clear BK147; clear HB; have BK147 := n0_; have HB := n1_; have BK148 := n2_; have GW148 := n3_; have GE148 := n4_; have NB147_148 := n5_; have NB148_147 := n6_; clear n0_ n1_ n2_ n3_ n4_ n5_ n6_; clear hb hbox hg; have hnb6 := NB147_148.out; have hnc6 := NB148_147.out; have hcz7_0 : w5.cell? ⟨gb147, 0, none⟩ = some (.slice A0_0 l0_0.length c0_0) := (blk_cell BK147.out 0).trans rfl; have hfz7_0 := blk_frozen BK147.out 0; have hcz8_0 : w5.cell? ⟨gb148, 0, none⟩ = some (.slice A1_0 l1_0.length c1_0) := (blk_cell BK148.out 0).trans rfl; have hfz8_0 := blk_frozen BK148.out 0)))
    go_loopg [16] k (fun kq v16 w' => ∃ (x16_1 : Int), v16 = .int .i64 x16_1 ∧ Aside0 (monikerplain_SameTree.l0 kq (l0_0.length : Int) x16_1 l0_0 l1_0 = some r) ∧ Aside0 (kq ≤ k) ∧ Aside0 (w'.heap[gb147]? = some (.cells #[(.slice A0_0 l0_0.length c0_0)] 25 (0, 0))) ∧ Aside0 (w'.heap[gb148]? = some (.cells #[(.slice A1_0 l1_0.length c1_0)] 25 (0, 0))) ∧ Aside0 (Below w.heap.size w w'))
    case atStart => exact ⟨(0), (by first | rfl | (simp; done) | (simp [*]; done)), H', ⟨Nat.le_refl _⟩, ⟨by (with_reducible repeat (first | refine blk_drewN ?_ _ | refine blk_drew ?_ | refine blk_alloc ?_ _)); exact BK147.out⟩, ⟨by (with_reducible repeat (first | refine blk_drewN ?_ _ | refine blk_drew ?_ | refine blk_alloc ?_ _)); exact BK148.out⟩, ⟨by repeat (first | (with_reducible first | exact HB.out | apply below_alloc | apply pw_below_drewN | apply below_drew1 | refine below_set ?_ GE147.out | refine below_set ?_ GE148.out) | exact HB.out)⟩⟩
    case round =>
      clear H'
      try clear c1
      try clear p2
      try clear c3
      try clear c3b0
      try clear c3b1
      try clear c3b2
      try clear c4
      try clear c6
      try clear hcz7_0
      try clear hcz8_0
      try clear hfz7_0
      try clear hfz8_0
      obtain ⟨x16_1, rfl, HA, HK1, BK147, BK148, HB⟩ := hrel
      cases gk with
      | zero => exact absurd HA.out (by simp [monikerplain_SameTree.l0])
      | succ k1 =>
        have H := HA.out
        clear HA
        simp only [monikerplain_SameTree.l0] at H
        by_cases c9 : x16_1 < (l0_0.length : Int)
        · rw [if_pos c9] at H
          have c9b0 : decide (x16_1 < (l0_0.length : Int)) = true := decide_eq_true c9
          clear c9
          by_cases c10 : 0 ≤ x16_1
          · rw [if_pos c10] at H
            have c10b0 : decide (0 ≤ x16_1) = true := decide_eq_true c10
            clear c10
            by_cases c11 : x16_1 < (l0_0.length : Int)
            · rw [if_pos c11] at H
              have c11b0 : decide (x16_1 < (l0_0.length : Int)) = true := decide_eq_true c11
              clear c11
              by_cases c12 : x16_1 < (l1_0.length : Int)
              · rw [if_pos c12] at H
                have c12b0 : decide (x16_1 < (l1_0.length : Int)) = true := decide_eq_true c12
                clear c12
                by_cases c13 : (!(((rd_T47 l0_0 x16_1).f0) == ((rd_T47 l1_0 x16_1).f0)) || (!(((rd_T47 l0_0 x16_1).f1) == ((rd_T47 l1_0 x16_1).f1)) || (!(((rd_T47 l0_0 x16_1).f2) == ((rd_T47 l1_0 x16_1).f2)) || (!(((rd_T47 l0_0 x16_1).f3) == ((rd_T47 l1_0 x16_1).f3)))))) = true
                · rw [if_pos c13] at H
                  have c13b0 : (!(((rd_T47 l0_0 x16_1).f0) == ((rd_T47 l1_0 x16_1).f0)) || (!(((rd_T47 l0_0 x16_1).f1) == ((rd_T47 l1_0 x16_1).f1)) || (!(((rd_T47 l0_0 x16_1).f2) == ((rd_T47 l1_0 x16_1).f2)) || (!(((rd_T47 l0_0 x16_1).f3) == ((rd_T47 l1_0 x16_1).f3)))))) = true := c13
                  clear c13
                  obtain rfl := Option.some.inj H
                  have hnb14 := NB147_148.out
                  have hnc14 := NB148_147.out
                  have hcz15_0 : wr.cell? ⟨gb147, 0, none⟩ = some (.slice A0_0 l0_0.length c0_0) := (blk_cell BK147.out 0).trans rfl
                  have hfz15_0 := blk_frozen BK147.out 0
                  have p149 : 0 ≤ (x16_1 : Int) := of_decide_eq_true (by first | (with_reducible assumption) | assumption)
                  have q149 : x16_1 < (l0_0.length : Int) := of_decide_eq_true (by first | (with_reducible assumption) | assumption)
                  obtain ⟨ad149, e149, hx149_0, hx149_1, hx149_2, hx149_3⟩ := at_T47 HR0_0.out x16_1 p149 q149
                  cases e149
                  replace hx149_0 := (HB.out.cell (World.block_lt_of_cell? w _ hx149_0)).trans hx149_0
                  replace hx149_1 := (HB.out.cell (World.block_lt_of_cell? w _ hx149_1)).trans hx149_1
                  replace hx149_2 := (HB.out.cell (World.block_lt_of_cell? w _ hx149_2)).trans hx149_2
                  replace hx149_3 := (HB.out.cell (World.block_lt_of_cell? w _ hx149_3)).trans hx149_3
                  replace p149 := eq_true p149
                  replace q149 := eq_true q149
                  have hcz16_0 : wr.cell? ⟨gb148, 0, none⟩ = some (.slice A1_0 l1_0.length c1_0) := (blk_cell BK148.out 0).trans rfl
                  have hfz16_0 := blk_frozen BK148.out 0
                  have p150 : 0 ≤ (x16_1 : Int) := of_decide_eq_true (by first | (with_reducible assumption) | assumption)
                  have q150 : x16_1 < (l1_0.length : Int) := of_decide_eq_true (by first | (with_reducible assumption) | assumption)
                  obtain ⟨ad150, e150, hx150_0, hx150_1, hx150_2, hx150_3⟩ := at_T47 HR1_0.out x16_1 p150 q150
                  cases e150
                  replace hx150_0 := (HB.out.cell (World.block_lt_of_cell? w _ hx150_0)).trans hx150_0
                  replace hx150_1 := (HB.out.cell (World.block_lt_of_cell? w _ hx150_1)).trans hx150_1
                  replace hx150_2 := (HB.out.cell (World.block_lt_of_cell? w _ hx150_2)).trans hx150_2
                  replace hx150_3 := (HB.out.cell (World.block_lt_of_cell? w _ hx150_3)).trans hx150_3
                  replace p150 := eq_true p150
                  replace q150 := eq_true q150
                  go_wp2
                  repeat (go_quiet (fail); try go_wp2)
                  go_ret
                  exact ⟨by first | rfl | (simp [errW_none, errW_some] <;> rfl) | (simp [*, errW_none, errW_some] <;> rfl), by repeat (first | (with_reducible first | exact HB.out | apply below_alloc | apply pw_below_drewN | apply below_drew1 | refine below_set ?_ GE147.out | refine below_set ?_ GE148.out) | exact HB.out)⟩
                · rw [if_neg c13] at H
                  have c13b0 : (!(((rd_T47 l0_0 x16_1).f0) == ((rd_T47 l1_0 x16_1).f0)) || (!(((rd_T47 l0_0 x16_1).f1) == ((rd_T47 l1_0 x16_1).f1)) || (!(((rd_T47 l0_0 x16_1).f2) == ((rd_T47 l1_0 x16_1).f2)) || (!(((rd_T47 l0_0 x16_1).f3) == ((rd_T47 l1_0 x16_1).f3)))))) = false := by simpa using c13
                  clear c13
                  have H' := Aside0.mk H
                  clear H
                  have hnb17 := NB147_148.out
                  have hnc17 := NB148_147.out
                  have hcz18_0 : wr.cell? ⟨gb147, 0, none⟩ = some (.slice A0_0 l0_0.length c0_0) := (blk_cell BK147.out 0).trans rfl
                  have hfz18_0 := blk_frozen BK147.out 0
                  have p149 : 0 ≤ (x16_1 : Int) := of_decide_eq_true (by first | (with_reducible assumption) | assumption)
                  have q149 : x16_1 < (l0_0.length : Int) := of_decide_eq_true (by first | (with_reducible assumption) | assumption)
                  obtain ⟨ad149, e149, hx149_0, hx149_1, hx149_2, hx149_3⟩ := at_T47 HR0_0.out x16_1 p149 q149
                  cases e149
                  replace hx149_0 := (HB.out.cell (World.block_lt_of_cell? w _ hx149_0)).trans hx149_0
                  replace hx149_1 := (HB.out.cell (World.block_lt_of_cell? w _ hx149_1)).trans hx149_1
                  replace hx149_2 := (HB.out.cell (World.block_lt_of_cell? w _ hx149_2)).trans hx149_2
                  replace hx149_3 := (HB.out.cell (World.block_lt_of_cell? w _ hx149_3)).trans hx149_3
                  replace p149 := eq_true p149
                  replace q149 := eq_true q149
                  have hcz19_0 : wr.cell? ⟨gb148, 0, none⟩ = some (.slice A1_0 l1_0.length c1_0) := (blk_cell BK148.out 0).trans rfl
                  have hfz19_0 := blk_frozen BK148.out 0
                  have p150 : 0 ≤ (x16_1 : Int) := of_decide_eq_true (by first | (with_reducible assumption) | assumption)
                  have q150 : x16_1 < (l1_0.length : Int) := of_decide_eq_true (by first | (with_reducible assumption) | assumption)
                  obtain ⟨ad150, e150, hx150_0, hx150_1, hx150_2, hx150_3⟩ := at_T47 HR1_0.out x16_1 p150 q150
                  cases e150
                  replace hx150_0 := (HB.out.cell (World.block_lt_of_cell? w _ hx150_0)).trans hx150_0
                  replace hx150_1 := (HB.out.cell (World.block_lt_of_cell? w _ hx150_1)).trans hx150_1
                  replace hx150_2 := (HB.out.cell (World.block_lt_of_cell? w _ hx150_2)).trans hx150_2
                  replace hx150_3 := (HB.out.cell (World.block_lt_of_cell? w _ hx150_3)).trans hx150_3
                  replace p150 := eq_true p150
                  replace q150 := eq_true q150
                  go_wp2
                  repeat (go_quiet (fail); try go_wp2)
                  go_roundg k1
                  case measure => have := HK1.out; omega
                  case rel => exact ⟨(wrap64 (x16_1 + 1)), (by first | rfl | (simp; done) | (simp [*]; done)), H', ⟨by have := HK1.out; omega⟩, ⟨by (with_reducible repeat (first | refine blk_drewN ?_ _ | refine blk_drew ?_ | refine blk_alloc ?_ _)); exact BK147.out⟩, ⟨by (with_reducible repeat (first | refine blk_drewN ?_ _ | refine blk_drew ?_ | refine blk_alloc ?_ _)); exact BK148.out⟩, ⟨by repeat (first | (with_reducible first | exact HB.out | apply below_alloc | apply pw_below_drewN | apply below_drew1 | refine below_set ?_ GE147.out | refine below_set ?_ GE148.out) | exact HB.out)⟩⟩
              · rw [if_neg c12] at H
                exact absurd H (by simp)
            · rw [if_neg c11] at H
              exact absurd H (by simp)
          · rw [if_neg c10] at H
            exact absurd H (by simp)
        · rw [if_neg c9] at H
          have c9b0 : decide (x16_1 < (l0_0.length : Int)) = false := decide_eq_false c9
          clear c9
          obtain rfl := Option.some.inj H
          go_wp2
          repeat (go_quiet (fail); try go_wp2)
          go_ret
          exact ⟨by first | rfl | (simp [errW_none, errW_some] <;> rfl) | (simp [*, errW_none, errW_some] <;> rfl), by repeat (first | (with_reducible first | exact HB.out | apply below_alloc | apply pw_below_drewN | apply below_drew1 | refine below_set ?_ GE147.out | refine below_set ?_ GE148.out) | exact HB.out)⟩
  · rw [if_neg c3] at H
    have c3b0 : ((l0_0.length : Int) == (l1_0.length : Int)) = false := beq_eq_false_iff_ne.mpr c3
    have c3b1 : ((l0_0.length : Int) != (l1_0.length : Int)) = true := bne_iff_ne.mpr c3
    have c3b2 : (l0_0.length == l1_0.length) = false := by first | simpa using c3 | (simp at c3 ⊢; omega)
    obtain rfl := Option.some.inj H
    go_enter Try.func47, Try.ntmps47
    go_wp2_with (first | ((with_reducible refine gate_dst (N := 2) rfl ?_); refine box_event ?hg (N := 2) ?hd (cs := #[.slice A0_0 l0_0.length c0_0]) (t := 25) ?hr ?_; (case hd => rfl); (case hg => rfl); (case hr => first | (go_simp; done) | (go_simp; rfl)); intro gb147 hg w20 hbox hb; have n0_ := Aside0.mk (below_step (by repeat (first | (with_reducible first | exact HB.out | apply below_alloc | apply pw_below_drewN | apply below_drew1) | exact HB.out)) hb); have n1_ := Aside0.mk (hbox); have n2_ := Aside0.mk ((by rw [hg]; exact (below_size (by repeat (first | (with_reducible first | exact HB.out | apply below_alloc | apply pw_below_drewN | apply below_drew1) | exact HB.out))) : w.heap.size ≤ gb147)); have n3_ := Aside0.mk ((by rw [hg]; exact (below_size (by repeat (first | (with_reducible first | exact HB.out | apply below_alloc | apply pw_below_drewN | apply below_drew1) | exact HB.out))) : w.heap.size ≤ gb147)); clear HB; have HB := n0_; have BK147 := n1_; have GW147 := n2_; have GE147 := n3_; clear n0_ n1_ n2_ n3_; clear hb hbox hg) | ((with_reducible refine gate_dst (N := 3) rfl ?_); refine box_event ?hg (N := 3) ?hd (cs := #[.slice A1_0 l1_0.length c1_0]) (t := 25) ?hr ?_; (case hd => rfl); (case hg => rfl); (case hr => first | (go_simp; done) | (go_simp; rfl)); intro gb148 hg w21 hbox hb; have n0_ := Aside0.mk (blk_below (g := gb147) (o := .cells #[.slice A0_0 l0_0.length c0_0] 25 (0, 0)) (by (with_reducible repeat (first | refine blk_drewN ?_ _ | refine blk_drew ?_ | refine blk_alloc ?_ _)); exact BK147.out) hb); have n1_ := Aside0.mk (below_step (by repeat (first | (with_reducible first | exact HB.out | apply below_alloc | apply pw_below_drewN | apply below_drew1 | refine below_set ?_ GE147.out) | exact HB.out)) hb); have n2_ := Aside0.mk (hbox); have n3_ := Aside0.mk ((by rw [hg]; exact (below_size (by repeat (first | (with_reducible first | exact HB.out | apply below_alloc | apply pw_below_drewN | apply below_drew1 | refine below_set ?_ GE147.out) | exact HB.out))) : w.heap.size ≤ gb148)); have n4_ := Aside0.mk ((by rw [hg]; exact (below_size (by repeat (first | (with_reducible first | exact HB.out | apply below_alloc | apply pw_below_drewN | apply below_drew1 | refine below_set ?_ GE147.out) | exact HB.out))) : w.heap.size ≤ gb148)); have n5_ := Aside0.mk ((by rw [hg]; exact Nat.ne_of_lt (blk_lt (g := gb147) (o := .cells #[.slice A0_0 l0_0.length c0_0] 25 (0, 0)) (by (with_reducible repeat (first | refine blk_drewN ?_ _ | refine blk_drew ?_ | refine blk_alloc ?_ _)); exact BK147.out)) : gb147 ≠ gb148)); have n6_ := Aside0.mk ((by rw [hg]; exact Nat.ne_of_gt (blk_lt (g := gb147) (o := .cells #[.slice A0_0 l0_0.length c0_0] 25 (0, 0)) (by (with_reducible repeat (first | refine blk_drewN ?_ _ | refine blk_drew ?_ | refine blk_alloc ?_ _)); exact BK147.out)) : gb148 ≠ gb147)); clear BK147; clear HB; have BK147 := n0_; have HB := n1_; have BK148 := n2_; have GW148 := n3_; have GE148 := n4_; have NB147_148 := n5_; have NB148_147 := n6_; clear n0_ n1_ n2_ n3_ n4_ n5_ n6_; clear hb hbox hg; have hnb22 := NB147_148.out; have hnc22 := NB148_147.out; have hcz23_0 : w21.cell? ⟨gb147, 0, none⟩ = some (.slice A0_0 l0_0.length c0_0) := (blk_cell BK147.out 0).trans rfl; have hfz23_0 := blk_frozen BK147.out 0; have hcz24_0 : w21.cell? ⟨gb148, 0, none⟩ = some (.slice A1_0 l1_0.length c1_0) := (blk_cell BK148.out 0).trans rfl; have hfz24_0 := blk_frozen BK148.out 0))
    repeat (go_quiet (first | ((with_reducible refine gate_dst (N := 2) rfl ?_); refine box_event ?hg (N := 2) ?hd (cs := #[.slice A0_0 l0_0.length c0_0]) (t := 25) ?hr ?_; (case hd => rfl); (case hg => rfl); (case hr => first | (go_simp; done) | (go_simp; rfl)); intro gb147 hg w20 hbox hb; have n0_ := Aside0.mk (below_step (by repeat (first | (with_reducible first | exact HB.out | apply below_alloc | apply pw_below_drewN | apply below_drew1) | exact HB.out)) hb); have n1_ := Aside0.mk (hbox); have n2_ := Aside0.mk ((by rw [hg]; exact (below_size (by repeat (first | (with_reducible first | exact HB.out | apply below_alloc | apply pw_below_drewN | apply below_drew1) | exact HB.out))) : w.heap.size ≤ gb147)); have n3_ := Aside0.mk ((by rw [hg]; exact (below_size (by repeat (first | (with_reducible first | exact HB.out | apply below_alloc | apply pw_below_drewN | apply below_drew1) | exact HB.out))) : w.heap.size ≤ gb147)); clear HB; have HB := n0_; have BK147 := n1_; have GW147 := n2_; have GE147 := n3_; clear n0_ n1_ n2_ n3_; clear hb hbox hg) | ((with_reducible refine gate_dst (N := 3) rfl ?_); refine box_event ?hg (N := 3) ?hd (cs := #[.slice A1_0 l1_0.length c1_0]) (t := 25) ?hr ?_; (case hd => rfl); (case hg => rfl); (case hr => first | (go_simp; done) | (go_simp; rfl)); intro gb148 hg w21 hbox hb; have n0_ := Aside0.mk (blk_below (g := gb147) (o := .cells #[.slice A0_0 l0_0.length c0_0] 25 (0, 0)) (by (with_reducible repeat (first | refine blk_drewN ?_ _ | refine blk_drew ?_ | refine blk_alloc ?_ _)); exact BK147.out) hb); have n1_ := Aside0.mk (below_step (by repeat (first | (with_reducible first | exact HB.out | apply below_alloc | apply pw_below_drewN | apply below_drew1 | refine below_set ?_ GE147.out) | exact HB.out)) hb); have n2_ := Aside0.mk (hbox); have n3_ := Aside0.mk ((by rw [hg]; exact (below_size (by repeat (first | (with_reducible first | exact HB.out | apply below_alloc | apply pw_below_drewN | apply below_drew1 | refine below_set ?_ GE147.out) | exact HB.out))) : w.heap.size ≤ gb148)); have n4_ := Aside0.mk ((by rw [hg]; exact (below_size (by repeat (first | (with_reducible first | exact HB.out | apply below_alloc | apply pw_below_drewN | apply below_drew1 | refine below_set ?_ GE147.out) | exact HB.out))) : w.heap.size ≤ gb148)); have n5_ := Aside0.mk ((by rw [hg]; exact Nat.ne_of_lt (blk_lt (g := gb147) (o := .cells #[.slice A0_0 l0_0.length c0_0] 25 (0, 0)) (by (with_reducible repeat (first | refine blk_drewN ?_ _ | refine blk_drew ?_ | refine blk_alloc ?_ _)); exact BK147.out)) : gb147 ≠ gb148)); have n6_ := Aside0.mk ((by rw [hg]; exact Nat.ne_of_gt (blk_lt (g := gb147) (o := .cells #[.slice A0_0 l0_0.length c0_0] 25 (0, 0)) (by (with_reducible repeat (first | refine blk_drewN ?_ _ | refine blk_drew ?_ | refine blk_alloc ?_ _)); exact BK147.out)) : gb148 ≠ gb147)); clear BK147; clear HB; have BK147 := n0_; have HB := n1_; have BK148 := n2_; have GW148 := n3_; have GE148 := n4_; have NB147_148 := n5_; have NB148_147 := n6_; clear n0_ n1_ n2_ n3_ n4_ n5_ n6_; clear hb hbox hg; have hnb22 := NB147_148.out; have hnc22 := NB148_147.out; have hcz23_0 : w21.cell? ⟨gb147, 0, none⟩ = some (.slice A0_0 l0_0.length c0_0) := (blk_cell BK147.out 0).trans rfl; have hfz23_0 := blk_frozen BK147.out 0; have hcz24_0 : w21.cell? ⟨gb148, 0, none⟩ = some (.slice A1_0 l1_0.length c1_0) := (blk_cell BK148.out 0).trans rfl; have hfz24_0 := blk_frozen BK148.out 0)); try go_wp2_with (first | ((with_reducible refine gate_dst (N := 2) rfl ?_); refine box_event ?hg (N := 2) ?hd (cs := #[.slice A0_0 l0_0.length c0_0]) (t := 25) ?hr ?_; (case hd => rfl); (case hg => rfl); (case hr => first | (go_simp; done) | (go_simp; rfl)); intro gb147 hg w20 hbox hb; have n0_ := Aside0.mk (below_step (by repeat (first | (with_reducible first | exact HB.out | apply below_alloc | apply pw_below_drewN | apply below_drew1) | exact HB.out)) hb); have n1_ := Aside0.mk (hbox); have n2_ := Aside0.mk ((by rw [hg]; exact (below_size (by repeat (first | (with_reducible first | exact HB.out | apply below_alloc | apply pw_below_drewN | apply below_drew1) | exact HB.out))) : w.heap.size ≤ gb147)); have n3_ := Aside0.mk ((by rw [hg]; exact (below_size (by repeat (first | (with_reducible first | exact HB.out | apply below_alloc | apply pw_below_drewN | apply below_drew1) | exact HB.out))) : w.heap.size ≤ gb147)); clear HB; have HB := n0_; have BK147 := n1_; have GW147 := n2_; have GE147 := n3_; clear n0_ n1_ n2_ n3_; clear hb hbox hg) | ((with_reducible refine gate_dst (N := 3) rfl ?_); refine box_event ?hg (N := 3) ?hd (cs := #[.slice A1_0 l1_0.length c1_0]) (t := 25) ?hr ?_; (case hd => rfl); (case hg => rfl); (case hr => first | (go_simp; done) | (go_simp; rfl)); intro gb148 hg w21 hbox hb; have n0_ := Aside0.mk (blk_below (g := gb147) (o := .cells #[.slice A0_0 l0_0.length c0_0] 25 (0, 0)) (by (with_reducible repeat (first | refine blk_drewN ?_ _ | refine blk_drew ?_ | refine blk_alloc ?_ _)); exact BK147.out) hb); have n1_ := Aside0.mk (below_step (by repeat (first | (with_reducible first | exact HB.out | apply below_alloc | apply pw_below_drewN | apply below_drew1 | refine below_set ?_ GE147.out) | exact HB.out)) hb); have n2_ := Aside0.mk (hbox); have n3_ := Aside0.mk ((by rw [hg]; exact (below_size (by repeat (first | (with_reducible first | exact HB.out | apply below_alloc | apply pw_below_drewN | apply below_drew1 | refine below_set ?_ GE147.out) | exact HB.out))) : w.heap.size ≤ gb148)); have n4_ := Aside0.mk ((by rw [hg]; exact (below_size (by repeat (first | (with_reducible first | exact HB.out | apply below_alloc | apply pw_below_drewN | apply below_drew1 | refine below_set ?_ GE147.out) | exact HB.out))) : w.heap.size ≤ gb148)); have n5_ := Aside0.mk ((by rw [hg]; exact Nat.ne_of_lt (blk_lt (g := gb147) (o := .cells #[.slice A0_0 l0_0.length c0_0] 25 (0, 0)) (by (with_reducible repeat (first | refine blk_drewN ?_ _ | refine blk_drew ?_ | refine blk_alloc ?_ _)); exact BK147.out)) : gb147 ≠ gb148)); have n6_ := Aside0.mk ((by rw [hg]; exact Nat.ne_of_gt (blk_lt (g := gb147) (o := .cells #[.slice A0_0 l0_0.length c0_0] 25 (0, 0)) (by (with_reducible repeat (first | refine blk_drewN ?_ _ | refine blk_drew ?_ | refine blk_alloc ?_ _)); exact BK147.out)) : gb148 ≠ gb147)); clear BK147; clear HB; have BK147 := n0_; have HB := n1_; have BK148 := n2_; have GW148 := n3_; have GE148 := n4_; have NB147_148 := n5_; have NB148_147 := n6_; clear n0_ n1_ n2_ n3_ n4_ n5_ n6_; clear hb hbox hg; have hnb22 := NB147_148.out; have hnc22 := NB148_147.out; have hcz23_0 : w21.cell? ⟨gb147, 0, none⟩ = some (.slice A0_0 l0_0.length c0_0) := (blk_cell BK147.out 0).trans rfl; have hfz23_0 := blk_frozen BK147.out 0; have hcz24_0 : w21.cell? ⟨gb148, 0, none⟩ = some (.slice A1_0 l1_0.length c1_0) := (blk_cell BK148.out 0).trans rfl; have hfz24_0 := blk_frozen BK148.out 0)))
    go_ret
    exact ⟨by first | rfl | (simp [errW_none, errW_some] <;> rfl) | (simp [*, errW_none, errW_some] <;> rfl), by repeat (first | (with_reducible first | exact HB.out | apply below_alloc | apply pw_below_drewN | apply below_drew1 | refine below_set ?_ GE147.out | refine below_set ?_ GE148.out) | exact HB.out)⟩

end Go.Proofs.Ytodldpdnhcafpaa.F

-- A text of this session's own program (wip/myprint.sh over a changed print tool): functions and their walks
namespace Go.Proofs.Ytodldpdnhcafpaa.F
open Go.RowKit Go.Proofs.YtodldpdnhcafpaaW.PrintWords Go.Proofs.YtodldpdnhcafpaaW.PrintLast Go.Proofs.YtodldpdnhcafpaaW.PrintMore
attribute [local go_sem] max2_int min2_int max_two min_two max_three min_three max_four min_four   -- for this text's walks alone
set_option linter.unusedVariables false
set_option linter.unusedSimpArgs false

/-! ### monikerplain_SameInts: function 22 -/
def monikerplain_SameInts.l0 : Nat → List Int → List Int → Int → Int → Option (Bool)
  | 0, _, _, _, _ => none
  | k + 1, x0, x1, x12, x13 => if x13 < x12 then (if 0 ≤ x13 then (if x13 < (x0.length : Int) then (if x13 < (x1.length : Int) then (if (rd x0 x13) = (rd x1 x13) then (monikerplain_SameInts.l0 k x0 x1 x12 (wrap64 (x13 + 1))) else (some false)) else (none)) else (none)) else (none)) else (some true)
def monikerplain_SameInts.f (k : Nat) (l0 : List Int) (l1 : List Int) : Option (Bool) := if (l0.length : Int) = (l1.length : Int) then (monikerplain_SameInts.l0 k l0 l1 (l0.length : Int) 0) else (some false)
set_option maxHeartbeats 8000000 in
set_option maxRecDepth 100000 in
theorem monikerplain_SameInts.calls (k : Nat) (A0 : Option Addr) (c0 : Nat) (l0 : List Int) (A1 : Option Addr) (c1 : Nat) (l1 : List Int) (r : Bool) (w : World) (hr0 : Kd.C (Kd.int .i64) w A0 l0.length l0) (hc0 : l0.length ≤ c0) (hr1 : Kd.C (Kd.int .i64) w A1 l1.length l1) (hc1 : l1.length ≤ c1) (h : monikerplain_SameInts.f k l0 l1 = some r) :
    Calls Try.prog 22 #[.slice A0 l0.length c0, .slice A1 l1.length c1] w fun e w' => e = .returned (.bool r) ∧ Drawn0 w w' := by
  have HR0 := Aside0.mk hr0
  have HC0 := Aside0.mk hc0
  clear hr0 hc0
  have HR1 := Aside0.mk hr1
  have HC1 := Aside0.mk hc1
  clear hr1 hc1
  have H : (if (l0.length : Int) = (l1.length : Int) then (monikerplain_SameInts.l0 k l0 l1 (l0.length : Int) 0) else (some false)) = some r := h
  clear h
  by_cases c3 : (l0.length : Int) = (l1.length : Int)
  · rw [if_pos c3] at H
    have c3b0 : ((l0.length : Int) == (l1.length : Int)) = true := beq_iff_eq.mpr c3
    have c3b1 : ((l0.length : Int) != (l1.length : Int)) = false := bne_eq_false_iff_eq.mpr c3
    have c3b2 : (l0.length == l1.length) = true := by first | simpa using c3 | (simp at c3 ⊢; omega)
    clear c3
    have H' := Aside0.mk H
    clear H
    go_enter Try.func22, Try.ntmps22
    go_wp2
    repeat (go_quiet (fail); try go_wp2)
    go_loopg [13] k (fun kq v13 w' => ∃ (x13_1 : Int), v13 = .int .i64 x13_1 ∧ Aside0 (monikerplain_SameInts.l0 kq l0 l1 (l0.length : Int) x13_1 = some r) ∧ Aside0 (kq ≤ k) ∧ Drawn0 w w')
    case atStart => exact ⟨(0), (by first | rfl | (simp; done) | (simp [*]; done)), H', ⟨Nat.le_refl _⟩, by repeat (first | exact Drawn0.refl _ | apply Drawn0.step)⟩
    case round =>
      clear H'
      try clear c1
      try clear c2
      try clear p2
      try clear c3
      try clear c3b0
      try clear c3b1
      try clear c3b2
      obtain ⟨x13_1, rfl, HA, HK1, ⟨m1, rfl⟩⟩ := hrel
      cases gk with
      | zero => exact absurd HA.out (by simp [monikerplain_SameInts.l0])
      | succ k1 =>
        have H := HA.out
        clear HA
        simp only [monikerplain_SameInts.l0] at H
        by_cases c4 : x13_1 < (l0.length : Int)
        · rw [if_pos c4] at H
          have c4b0 : decide (x13_1 < (l0.length : Int)) = true := decide_eq_true c4
          clear c4
          by_cases c5 : 0 ≤ x13_1
          · rw [if_pos c5] at H
            have c5b0 : decide (0 ≤ x13_1) = true := decide_eq_true c5
            clear c5
            by_cases c6 : x13_1 < (l0.length : Int)
            · rw [if_pos c6] at H
              have c6b0 : decide (x13_1 < (l0.length : Int)) = true := decide_eq_true c6
              clear c6
              by_cases c7 : x13_1 < (l1.length : Int)
              · rw [if_pos c7] at H
                have c7b0 : decide (x13_1 < (l1.length : Int)) = true := decide_eq_true c7
                clear c7
                by_cases c8 : (rd l0 x13_1) = (rd l1 x13_1)
                · rw [if_pos c8] at H
                  have c8b0 : ((rd l0 x13_1) == (rd l1 x13_1)) = true := beq_iff_eq.mpr c8
                  have c8b1 : ((rd l0 x13_1) != (rd l1 x13_1)) = false := bne_eq_false_iff_eq.mpr c8
                  clear c8
                  have H' := Aside0.mk H
                  clear H
                  have p168 : 0 ≤ (x13_1 : Int) := of_decide_eq_true (by first | (with_reducible assumption) | assumption)
                  have q168 : x13_1 < (l0.length : Int) := of_decide_eq_true (by first | (with_reducible assumption) | assumption)
                  obtain ⟨ad168, e168, hx168_0⟩ := Kd.at_int HR0.out x13_1 p168 q168
                  cases e168
                  replace p168 := eq_true p168
                  replace q168 := eq_true q168
                  have p169 : 0 ≤ (x13_1 : Int) := of_decide_eq_true (by first | (with_reducible assumption) | assumption)
                  have q169 : x13_1 < (l1.length : Int) := of_decide_eq_true (by first | (with_reducible assumption) | assumption)
                  obtain ⟨ad169, e169, hx169_0⟩ := Kd.at_int HR1.out x13_1 p169 q169
                  cases e169
                  replace p169 := eq_true p169
                  replace q169 := eq_true q169
                  go_wp2
                  repeat (go_quiet (fail); try go_wp2)
                  go_roundg k1
                  case measure => have := HK1.out; omega
                  case rel => exact ⟨(wrap64 (x13_1 + 1)), (by first | rfl | (simp; done) | (simp [*]; done)), H', ⟨by have := HK1.out; omega⟩, by repeat (first | exact Drawn0.refl _ | apply Drawn0.step)⟩
                · rw [if_neg c8] at H
                  have c8b0 : ((rd l0 x13_1) == (rd l1 x13_1)) = false := beq_eq_false_iff_ne.mpr c8
                  have c8b1 : ((rd l0 x13_1) != (rd l1 x13_1)) = true := bne_iff_ne.mpr c8
                  obtain rfl := Option.some.inj H
                  have p168 : 0 ≤ (x13_1 : Int) := of_decide_eq_true (by first | (with_reducible assumption) | assumption)
                  have q168 : x13_1 < (l0.length : Int) := of_decide_eq_true (by first | (with_reducible assumption) | assumption)
                  obtain ⟨ad168, e168, hx168_0⟩ := Kd.at_int HR0.out x13_1 p168 q168
                  cases e168
                  replace p168 := eq_true p168
                  replace q168 := eq_true q168
                  have p169 : 0 ≤ (x13_1 : Int) := of_decide_eq_true (by first | (with_reducible assumption) | assumption)
                  have q169 : x13_1 < (l1.length : Int) := of_decide_eq_true (by first | (with_reducible assumption) | assumption)
                  obtain ⟨ad169, e169, hx169_0⟩ := Kd.at_int HR1.out x13_1 p169 q169
                  cases e169
                  replace p169 := eq_true p169
                  replace q169 := eq_true q169
                  go_wp2
                  repeat (go_quiet (fail); try go_wp2)
                  go_ret
                  exact ⟨by first | rfl | (simp; done) | (simp [*]; done), by repeat (first | exact Drawn0.refl _ | apply Drawn0.step)⟩
              · rw [if_neg c7] at H
                exact absurd H (by simp)
            · rw [if_neg c6] at H
              exact absurd H (by simp)
          · rw [if_neg c5] at H
            exact absurd H (by simp)
        · rw [if_neg c4] at H
          have c4b0 : decide (x13_1 < (l0.length : Int)) = false := decide_eq_false c4
          clear c4
          obtain rfl := Option.some.inj H
          go_wp2
          repeat (go_quiet (fail); try go_wp2)
          go_ret
          exact ⟨by first | rfl | (simp; done) | (simp [*]; done), by repeat (first | exact Drawn0.refl _ | apply Drawn0.step)⟩
  · rw [if_neg c3] at H
    have c3b0 : ((l0.length : Int) == (l1.length : Int)) = false := beq_eq_false_iff_ne.mpr c3
    have c3b1 : ((l0.length : Int) != (l1.length : Int)) = true := bne_iff_ne.mpr c3
    have c3b2 : (l0.length == l1.length) = false := by first | simpa using c3 | (simp at c3 ⊢; omega)
    obtain rfl := Option.some.inj H
    go_enter Try.func22, Try.ntmps22
    go_wp2
    repeat (go_quiet (fail); try go_wp2)
    go_ret
    exact ⟨by first | rfl | (simp; done) | (simp [*]; done), by repeat (first | exact Drawn0.refl _ | apply Drawn0.step)⟩

end Go.Proofs.Ytodldpdnhcafpaa.F

namespace Go.Proofs.Ytodldpdnhcafpaa.Q
open Go.RowKit Go.Proofs.YtodldpdnhcafpaaW.PrintWords Go.Proofs.YtodldpdnhcafpaaW.PrintLast Go.Proofs.YtodldpdnhcafpaaW.PrintMore
open Go.Proofs.Ytodldpdnhcafpaa.F

theorem SameTokens_loop (l : List S61) (hl : l.length ≤ 9223372036854775807) (d : Nat) : ∀ i, i ≤ l.length → l.length - i = d →
    Ev (fun k => monikerplain_SameTokens.l0 k l l (l.length : Int) (i : Int)) true := by
  induction d with
  | zero =>
    intro i h1 h2
    refine ⟨1, fun n hn => ?_⟩
    obtain ⟨k, rfl⟩ : ∃ m, n = m + 1 := ⟨n - 1, by omega⟩
    simp only [monikerplain_SameTokens.l0]
    rw [if_neg (by omega)]
  | succ d ih =>
    intro i h1 h2
    obtain ⟨K, hK⟩ := ih (i + 1) (by omega) (by omega)
    refine ⟨K + 1, fun n hn => ?_⟩
    obtain ⟨k, rfl⟩ : ∃ m, n = m + 1 := ⟨n - 1, by omega⟩
    simp only [monikerplain_SameTokens.l0]
    rw [if_pos (by omega), if_pos (by omega), if_pos (by omega), if_pos (by omega), if_neg (by simp), show wrap64 ((i : Int) + 1) = ((i + 1 : Nat) : Int) by unfold wrap64; omega]
    exact hK k (by omega)
theorem SameTokens_is (l : List S61) (hl : l.length ≤ 9223372036854775807) : Ev (fun k => monikerplain_SameTokens.f k l l) true := by
  unfold monikerplain_SameTokens.f
  simp only [↓reduceIte]
  exact SameTokens_loop l hl l.length 0 (by omega) (by omega)

theorem SameInts_loop (l : List Int) (hl : l.length ≤ 9223372036854775807) (d : Nat) : ∀ i, i ≤ l.length → l.length - i = d →
    Ev (fun k => monikerplain_SameInts.l0 k l l (l.length : Int) (i : Int)) true := by
  induction d with
  | zero =>
    intro i h1 h2
    refine ⟨1, fun n hn => ?_⟩
    obtain ⟨k, rfl⟩ : ∃ m, n = m + 1 := ⟨n - 1, by omega⟩
    simp only [monikerplain_SameInts.l0]
    rw [if_neg (by omega)]
  | succ d ih =>
    intro i h1 h2
    obtain ⟨K, hK⟩ := ih (i + 1) (by omega) (by omega)
    refine ⟨K + 1, fun n hn => ?_⟩
    obtain ⟨k, rfl⟩ : ∃ m, n = m + 1 := ⟨n - 1, by omega⟩
    simp only [monikerplain_SameInts.l0]
    rw [if_pos (by omega), if_pos (by omega), if_pos (by omega), if_pos (by omega), if_pos (by simp), show wrap64 ((i : Int) + 1) = ((i + 1 : Nat) : Int) by unfold wrap64; omega]
    exact hK k (by omega)
theorem SameInts_is (l : List Int) (hl : l.length ≤ 9223372036854775807) : Ev (fun k => monikerplain_SameInts.f k l l) true := by
  unfold monikerplain_SameInts.f
  simp only [↓reduceIte]
  exact SameInts_loop l hl l.length 0 (by omega) (by omega)

theorem SameTree_loop (l : List S47) (hl : l.length ≤ 9223372036854775807) (d : Nat) : ∀ i, i ≤ l.length → l.length - i = d →
    Ev (fun k => monikerplain_SameTree.l0 k (l.length : Int) (i : Int) l l) true := by
  induction d with
  | zero =>
    intro i h1 h2
    refine ⟨1, fun n hn => ?_⟩
    obtain ⟨k, rfl⟩ : ∃ m, n = m + 1 := ⟨n - 1, by omega⟩
    simp only [monikerplain_SameTree.l0]
    rw [if_neg (by omega)]
  | succ d ih =>
    intro i h1 h2
    obtain ⟨K, hK⟩ := ih (i + 1) (by omega) (by omega)
    refine ⟨K + 1, fun n hn => ?_⟩
    obtain ⟨k, rfl⟩ : ∃ m, n = m + 1 := ⟨n - 1, by omega⟩
    simp only [monikerplain_SameTree.l0]
    rw [if_pos (by omega), if_pos (by omega), if_pos (by omega), if_pos (by omega), if_neg (by simp), show wrap64 ((i : Int) + 1) = ((i + 1 : Nat) : Int) by unfold wrap64; omega]
    exact hK k (by omega)
theorem SameTree_is (l : List S47) (hl : l.length ≤ 9223372036854775807) : Ev (fun k => monikerplain_SameTree.f k l l) true := by
  unfold monikerplain_SameTree.f
  simp only [↓reduceIte]
  exact SameTree_loop l hl l.length 0 (by omega) (by omega)
end Go.Proofs.Ytodldpdnhcafpaa.Q

namespace Go.Proofs.Ytodldpdnhcafpaa.H
open Go.RowKit Go.Proofs.YtodldpdnhcafpaaW.PrintWords Go.Proofs.YtodldpdnhcafpaaW.PrintLast Go.Proofs.YtodldpdnhcafpaaW.PrintMore
open Go.Proofs.Ytodldpdnhcafpaa.F
attribute [local go_sem high] eqA61 eqA47
set_option linter.unusedVariables false
set_option linter.unusedSimpArgs false

set_option maxHeartbeats 4000000 in
set_option maxRecDepth 100000 in
theorem kept_calls (t t' : ByteArray) (A B A1 A2 : Option Addr) (c1 c2 : Nat) (ps : List S61) (ns : List S47) (w : World) (hL1 : Kd.C k61 w A (ps.length + 2) (ps ++ marks61)) (hL2 : Kd.C k47 w B (ns.length + 2) (ns ++ marks47))
    (hr1 : Kd.C k61 w A1 ps.length ps) (hc1 : ps.length ≤ c1) (hr2 : Kd.C k47 w A2 ns.length ns) (hc2 : ns.length ≤ c2) (hl1 : ps.length ≤ 5864062014805) (hl2 : ns.length ≤ 4398046511104) :
    Calls Try.prog 21 #[.agg #[.string t, .slice A ps.length (ps.length + 2), .slice B ns.length (ns.length + 2)], .agg #[.string t', .slice A1 ps.length c1, .slice A2 ns.length c2]] w fun e w' => e = .returned (.bool true) ∧ Below w.heap.size w w' := by
  have hu61 := Try.underlying61
  have hu47 := Try.underlying47
  have hu27 := Try.underlying27
  have hu25 := Try.underlying25
  obtain ⟨k1, hk1⟩ := (Q.SameTokens_is ps (by omega)).rounds
  obtain ⟨k2, hk2⟩ := (Q.SameTree_is ns (by omega)).rounds
  have r0 : rd_T61 (ps ++ marks61) (ps.length : Int) = ⟨0, -5, -6⟩ := by simp [rd_T61, marks61]
  have r1 : rd_T61 (ps ++ marks61) ((ps.length : Int) + 1) = ⟨77, 0, 0⟩ := by
    rw [rd_T61, show ((ps.length : Int) + 1).toNat = ps.length + 1 by omega]; simp [marks61]
  have s0 : rd_T47 (ns ++ marks47) (ns.length : Int) = ⟨99, -3, 0, -4⟩ := by simp [rd_T47, marks47]
  have s1 : rd_T47 (ns ++ marks47) ((ns.length : Int) + 1) = ⟨0, 0, 12345, 0⟩ := by
    rw [rd_T47, show ((ns.length : Int) + 1).toNat = ns.length + 1 by omega]; simp [marks47]
  obtain ⟨a, e0, x00, x01, x02⟩ := at_T61 hL1 (ps.length : Int) (by omega) (by omega)
  subst e0
  obtain ⟨_, e1, x10, x11, x12⟩ := at_T61 hL1 ((ps.length : Int) + 1) (by omega) (by omega)
  cases e1
  obtain ⟨b, e0, y00, y01, y02, y03⟩ := at_T47 hL2 (ns.length : Int) (by omega) (by omega)
  subst e0
  obtain ⟨_, e1, y10, y11, y12, y13⟩ := at_T47 hL2 ((ns.length : Int) + 1) (by omega) (by omega)
  cases e1
  rw [r0] at x00 x01 x02
  rw [r1] at x10 x11 x12
  rw [s0] at y00 y01 y02 y03
  rw [s1] at y10 y11 y12 y13
  clear r0 r1 s0 s1
  simp only [Int.toNat_natCast] at x00 x01 x02 y00 y01 y02 y03
  rw [show ((ps.length : Int) + 1).toNat = ps.length + 1 by omega] at x10 x11 x12
  rw [show ((ns.length : Int) + 1).toNat = ns.length + 1 by omega] at y10 y11 y12 y13
  have p00w := Aside0.mk x00
  have p01w := Aside0.mk x01
  have p02w := Aside0.mk x02
  have p10w := Aside0.mk x10
  have p11w := Aside0.mk x11
  have p12w := Aside0.mk x12
  have m00w := Aside0.mk y00
  have m01w := Aside0.mk y01
  have m02w := Aside0.mk y02
  have m03w := Aside0.mk y03
  have m10w := Aside0.mk y10
  have m11w := Aside0.mk y11
  have m12w := Aside0.mk y12
  have m13w := Aside0.mk y13
  clear x00 x01 x02 x10 x11 x12 y00 y01 y02 y03 y10 y11 y12 y13
  have HS1 := Aside0.mk (C_lent61 hL1)
  have HS2 := Aside0.mk (C_lent47 hL2)
  have HR1 := Aside0.mk hr1
  have HR2 := Aside0.mk hr2
  have HC1 := Aside0.mk hc1
  have HC2 := Aside0.mk hc2
  have HK1 := Aside0.mk hk1
  have HK2 := Aside0.mk hk2
  clear hL1 hL2 hr1 hr2 hc1 hc2 hk1 hk2
  go_enter Try.func21, Try.ntmps21
  go_wp2_with (first
    | ((with_reducible refine gate_dst (N := 2) rfl ?_); refine box_event ?hg (N := 2) ?hd (cs := #[.string t, .slice (some a) ps.length (ps.length + 2), .slice (some b) ns.length (ns.length + 2)]) (t := 27) ?hr ?_; (case hd => rfl); (case hg => rfl); (case hr => first | (go_simp; done) | (go_simp; rfl)); intro gb1 hge w1 hbox hb; have BK1 := Aside0.mk hbox; have HB := Aside0.mk hb; clear hbox hge hb)
    | ((with_reducible refine gate_dst (N := 3) rfl ?_); refine box_event ?hg (N := 3) ?hd (cs := #[.string t', .slice A1 ps.length c1, .slice A2 ns.length c2]) (t := 27) ?hr ?_; (case hd => rfl); (case hg => rfl); (case hr => first | (go_simp; done) | (go_simp; rfl)); intro gb2 hge w2 hbox hb; have BK2 := Aside0.mk hbox; have n0_ := Aside0.mk (blk_below BK1.out hb); have n1_ := Aside0.mk (below_step HB.out hb); clear BK1; clear HB; have BK1 := n0_; have HB := n1_; clear n0_ n1_; clear hbox hge hb; have hxgb10 : w2.cell? ⟨gb1, 0, none⟩ = some (.string t) := (blk_cell BK1.out 0).trans rfl; have hxgb11 : w2.cell? ⟨gb1, 1, none⟩ = some (.slice (some a) ps.length (ps.length + 2)) := (blk_cell BK1.out 1).trans rfl; have hxgb12 : w2.cell? ⟨gb1, 2, none⟩ = some (.slice (some b) ns.length (ns.length + 2)) := (blk_cell BK1.out 2).trans rfl; have hxgb20 : w2.cell? ⟨gb2, 0, none⟩ = some (.string t') := (blk_cell BK2.out 0).trans rfl; have hxgb21 : w2.cell? ⟨gb2, 1, none⟩ = some (.slice A1 ps.length c1) := (blk_cell BK2.out 1).trans rfl; have hxgb22 : w2.cell? ⟨gb2, 2, none⟩ = some (.slice A2 ns.length c2) := (blk_cell BK2.out 2).trans rfl)
    | ((with_reducible refine gate_callee (f := 46) rfl ?_); refine goesL_ (some 11) rfl rfl Try.func46 (by kernel_rfl) rfl #[.slice (some a) ps.length (ps.length + 2), .slice A1 ps.length c1] rfl (by (try simp only [List.map_toArray, List.map_cons, List.map_nil]); first | done | rfl) ?_; (with_reducible refine (monikerplain_SameTokens.calls k1 _ _ ps _ _ ps true _ (Kd.C_below HS1.out HB.out) (by omega) (Kd.C_below HR1.out HB.out) HC1.out HK1.out).mono ?_); rintro e w' ⟨rfl, ⟨nd, rfl⟩⟩; refine ⟨_, rfl, ?_⟩)
    )
  refine (monikerplain_SameTree.calls k2 _ _ ns _ _ ns true _ (Kd.C_drewN (Kd.C_below HS2.out HB.out) _) (by omega) (Kd.C_drewN (Kd.C_below HR2.out HB.out) _) HC2.out HK2.out).mono ?_
  rintro e w3 ⟨rfl, hb⟩
  clear hxgb10 hxgb11 hxgb12 hxgb20 hxgb21 hxgb22
  have n0_ := Aside0.mk (blk_below (blk_drewN BK1.out nd) hb)
  have n1_ := Aside0.mk (blk_below (blk_drewN BK2.out nd) hb)
  have n2_ := Aside0.mk (below_step (pw_below_drewN HB.out nd) hb)
  clear BK1
  clear BK2
  clear HB
  have BK1 := n0_
  have BK2 := n1_
  have HB := n2_
  clear n0_ n1_ n2_
  clear hb
  have hxgb10 : w3.cell? ⟨gb1, 0, none⟩ = some (.string t) := (blk_cell BK1.out 0).trans rfl
  have hxgb11 : w3.cell? ⟨gb1, 1, none⟩ = some (.slice (some a) ps.length (ps.length + 2)) := (blk_cell BK1.out 1).trans rfl
  have hxgb12 : w3.cell? ⟨gb1, 2, none⟩ = some (.slice (some b) ns.length (ns.length + 2)) := (blk_cell BK1.out 2).trans rfl
  have hxgb20 : w3.cell? ⟨gb2, 0, none⟩ = some (.string t') := (blk_cell BK2.out 0).trans rfl
  have hxgb21 : w3.cell? ⟨gb2, 1, none⟩ = some (.slice A1 ps.length c1) := (blk_cell BK2.out 1).trans rfl
  have hxgb22 : w3.cell? ⟨gb2, 2, none⟩ = some (.slice A2 ns.length c2) := (blk_cell BK2.out 2).trans rfl
  have p00 := pw_cell_below HB.out p00w.out
  have p01 := pw_cell_below HB.out p01w.out
  have p02 := pw_cell_below HB.out p02w.out
  have p10 := pw_cell_below HB.out p10w.out
  have p11 := pw_cell_below HB.out p11w.out
  have p12 := pw_cell_below HB.out p12w.out
  have m00 := pw_cell_below HB.out m00w.out
  have m01 := pw_cell_below HB.out m01w.out
  have m02 := pw_cell_below HB.out m02w.out
  have m03 := pw_cell_below HB.out m03w.out
  have m10 := pw_cell_below HB.out m10w.out
  have m11 := pw_cell_below HB.out m11w.out
  have m12 := pw_cell_below HB.out m12w.out
  have m13 := pw_cell_below HB.out m13w.out
  go_wp2_with fail


  go_ret
  exact ⟨rfl, HB.out⟩
end Go.Proofs.Ytodldpdnhcafpaa.H

namespace Go.Proofs.Ytodldpdnhcafpaa.L
open Go.RowKit Go.Proofs.YtodldpdnhcafpaaW.PrintWords Go.Proofs.YtodldpdnhcafpaaW.PrintLast Go.Proofs.YtodldpdnhcafpaaW.PrintMore
open Go.Proofs.Ytodldpdnhcafpaa.F Go.Proofs.Ytodldpdnhcafpaa.H

/-- What the law's walk holds of the world: the two forests' boxes and rows. -/
structure Hold (t : ByteArray) (A1 A2 A B : Option Addr) (c1 c2 : Nat) (ps : List S61) (ns : List S47) (g1 g2 : Nat) (w w' : World) : Prop where
  b1 : w'.heap[g1]? = some (.cells #[.string t, .slice A1 ps.length c1, .slice A2 ns.length c2] 27 (0, 0))
  b2 : w'.heap[g2]? = some (.cells #[.string t, .slice A ps.length (ps.length + 2), .slice B ns.length (ns.length + 2)] 27 (0, 0))
  r1 : Kd.C k61 w' A1 ps.length ps
  r2 : Kd.C k47 w' A2 ns.length ns
  l1 : Kd.C k61 w' A (ps.length + 2) (ps ++ marks61)
  l2 : Kd.C k47 w' B (ns.length + 2) (ns ++ marks47)
  be : Below w.heap.size w w'
theorem Hold.below {t : ByteArray} {A1 A2 A B : Option Addr} {c1 c2 : Nat} {ps : List S61} {ns : List S47} {g1 g2 : Nat} {w w' w'' : World} (h : Hold t A1 A2 A B c1 c2 ps ns g1 g2 w w') (hb : Below w'.heap.size w' w'') : Hold t A1 A2 A B c1 c2 ps ns g1 g2 w w'' :=
  ⟨blk_below h.b1 hb, blk_below h.b2 hb, Kd.C_below h.r1 hb, Kd.C_below h.r2 hb, Kd.C_below h.l1 hb, Kd.C_below h.l2 hb, below_step h.be hb⟩
theorem Hold.drew {t : ByteArray} {A1 A2 A B : Option Addr} {c1 c2 : Nat} {ps : List S61} {ns : List S47} {g1 g2 : Nat} {w w' : World} (h : Hold t A1 A2 A B c1 c2 ps ns g1 g2 w w') : Hold t A1 A2 A B c1 c2 ps ns g1 g2 w w'.drew :=
  h.below (below_drew (Below.refl _ _))

end Go.Proofs.Ytodldpdnhcafpaa.L

namespace Go.Proofs.Ytodldpdnhcafpaa.O
open Go.ChangeShapes Go.WideShapes Go.Deep Go.Proofs.YtodldpdnhcafpaaW.PrintWords

/-- What a value of type t that came in is, as a Lean value of kind d; and what is known of it. -/
def Opens {α : Type} (P : Program) (t : TypeId) (d : Kd α) (B : α → Prop) : Prop :=
  ∀ {H : Type} {enc : TypeId × Value → H} {w : World} {base : Nat} {spare : Nat → Bool} {held : Bool} {fuel : Nat} {cs : List Value} {x : DataW H × List MemPlace},
    DataW.trod enc P w base spare held fuel t cs = some x → (∀ n ∈ x.1.weights P t, n ≤ reachBytes) → ∃ a, d.K w a cs ∧ B a

theorem opens_int {P : Program} {t : TypeId} {k : IntKind} (hu : P.underlying t = some (.int k)) : Opens P t (Kd.int k) (fun n => (Lit.int k n).wf = true) := fun h _ => by
  obtain ⟨n, rfl, rfl, hw⟩ := DataW.trod_int hu h
  exact ⟨n, rfl, hw⟩
theorem opens_string {P : Program} {t : TypeId} (hu : P.underlying t = some .string) : Opens P t Kd.string (fun s => s.size ≤ 140737488351232) := fun h hw => by
  obtain ⟨s, rfl, rfl, _⟩ := DataW.trod_string hu h
  refine ⟨s, rfl, ?_⟩
  have := hw s.data.toList.length (by simp [DataW.weights])
  rw [Array.length_toList] at this
  exact this

theorem mem_weightsAll {H : Type} {P : Program} {e : TypeId} : ∀ {l : List (DataW H)} {y : DataW H}, y ∈ l → ∀ n ∈ y.weights P e, n ∈ DataW.weightsAll P e l
  | y0 :: l, y, h, n, hn => by
    simp only [DataW.weightsAll, List.mem_append]
    rcases List.mem_cons.1 h with rfl | h
    · exact .inl hn
    · exact .inr (mem_weightsAll h n hn)

/-- A slice that came in, its address and capacity told. -/
theorem open_row {α : Type} {P : Program} {t e : TypeId} {d : Kd α} {B : α → Prop} (hu : P.underlying t = some (.slice e)) (he : Opens P e d B) (hc : P.cellsOf e = d.sz)
    {H : Type} {enc : TypeId × Value → H} {w : World} {base : Nat} {spare : Nat → Bool} {held : Bool} {fuel : Nat} {A : Option Addr} {n c : Nat} {x : DataW H × List MemPlace}
    (h : DataW.trod enc P w base spare held fuel t [.slice A n c] = some x) (hw : ∀ n ∈ x.1.weights P t, n ≤ reachBytes) :
    ∃ xs : List α, xs.length = n ∧ d.C w A n xs ∧ n ≤ c ∧ (A = none → c = 0) ∧ (∀ a ∈ xs, B a) ∧ n * P.bytesOf e ≤ 140737488351232 := by
  rcases open_slice hu h with ⟨hcs, rfl⟩ | ⟨a, len, cap, m, fu, D, Pl, hcs, hb, hl, hm, hmm, rfl, hel⟩
  · simp only [List.cons.injEq, Value.slice.injEq, and_true] at hcs
    obtain ⟨rfl, rfl, rfl⟩ := hcs
    exact ⟨[], rfl, ⟨rfl, by omega, fun h0 => absurd h0 (by omega)⟩, by omega, fun _ => rfl, (fun a ha => by cases ha), by omega⟩
  · simp only [List.cons.injEq, Value.slice.injEq, and_true] at hcs
    obtain ⟨rfl, rfl, rfl⟩ := hcs
    have hlm : n ≤ m := by rw [hmm]; split <;> omega
    have hex : ∀ i, i < n → ∃ v : α, (∃ cs, d.K w v cs ∧ ∀ j u, cs[j]? = some u → w.cell? (a.add (i * d.sz + j)) = some u) ∧ B v := by
      intro i hi
      obtain ⟨cs', hc1, hc2⟩ := hel i (by omega)
      have hmem : D i ∈ (List.range n).map D := List.mem_map.2 ⟨i, List.mem_range.2 hi, rfl⟩
      obtain ⟨v, hv, hB⟩ := he hc2 (fun q hq => hw q (by
        simp only [DataW.weights, hu, List.mem_cons, List.mem_append]
        exact .inr (.inl (mem_weightsAll hmem q hq))))
      refine ⟨v, ⟨cs', hv, fun j u hj => ?_⟩, hB⟩
      obtain ⟨_, hcl, hat⟩ := World.cells?_some hc1
      have hjl : j < cs'.length := (List.getElem?_eq_some_iff.1 hj).1
      have := hat j (by omega)
      rw [hc] at this
      rw [← Go.Deep.add_add, this, hj]
    have key : ∀ k, k ≤ n → ∃ xs : List α, xs.length = k ∧ (∀ j p, xs[j]? = some p → (∃ cs, cs.length = d.sz ∧ d.K w p cs ∧ ∀ i u, cs[i]? = some u → w.cell? (a.add (j * d.sz + i)) = some u) ∧ B p) := by
      intro k
      induction k with
      | zero => intro _; exact ⟨[], rfl, fun j p hj => by simp at hj⟩
      | succ k ih =>
        intro hk
        obtain ⟨xs, hx, hxs⟩ := ih (by omega)
        obtain ⟨v, ⟨cs, hv, hcell⟩, hB⟩ := hex k (by omega)
        refine ⟨xs ++ [v], by simp [hx], fun j p hj => ?_⟩
        rcases Nat.lt_or_ge j k with hjk | hjk
        · rw [List.getElem?_append_left (by omega)] at hj
          exact hxs j p hj
        · have hjl := (List.getElem?_eq_some_iff.1 hj).1
          rw [List.length_append, List.length_singleton] at hjl
          obtain rfl : j = k := by omega
          have hp : v = p := by simpa [List.getElem?_append_right, hx] using hj
          subst hp
          exact ⟨⟨cs, d.K_len hv, hv, hcell⟩, hB⟩
    obtain ⟨xs, hx, hxs⟩ := key n (Nat.le_refl _)
    refine ⟨xs, hx, ⟨hx, by have : maxLen = 9223372036854775807 := rfl; omega, fun _ => ⟨a, rfl, fun j p hj => (hxs j p hj).1⟩⟩, hl, (fun h => by cases h), fun v hv => ?_, ?_⟩
    · obtain ⟨j, hj, rfl⟩ := List.mem_iff_getElem.1 hv
      exact (hxs j _ (List.getElem?_eq_getElem hj)).2
    · have := hw ((((List.range n).map D).length + ((List.range (m - n)).map fun j => D (n + j)).length) * P.bytesOf e) (by
        simp only [DataW.weights, hu]
        exact List.mem_cons_self)
      simp only [List.length_map, List.length_range] at this
      have h2 : n * P.bytesOf e ≤ (n + (m - n)) * P.bytesOf e := Nat.mul_le_mul_right _ (by omega)
      have h3 : reachBytes = 140737488351232 := rfl
      omega

end Go.Proofs.Ytodldpdnhcafpaa.O

namespace Go.Proofs.Ytodldpdnhcafpaa.H
open Go.ChangeShapes Go.WideShapes Go.Deep Go.Proofs.YtodldpdnhcafpaaW.PrintWords Go.Proofs.Ytodldpdnhcafpaa.F

theorem cells3 : Try.prog.cellsOf 3 = 1 := by kernel_rfl
theorem cells9 : Try.prog.cellsOf 9 = 1 := by kernel_rfl
theorem cells22 : Try.prog.cellsOf 22 = 1 := by kernel_rfl
theorem cells23 : Try.prog.cellsOf 23 = 1 := by kernel_rfl
theorem cells25 : Try.prog.cellsOf 25 = 1 := by kernel_rfl
theorem cells27 : Try.prog.cellsOf 27 = 3 := by kernel_rfl
theorem cells45 : Try.prog.cellsOf 45 = 1 := by kernel_rfl
theorem cells59 : Try.prog.cellsOf 59 = 1 := by kernel_rfl
theorem bytes61 : Try.prog.bytesOf 61 = 24 := by kernel_rfl
theorem bytes47 : Try.prog.bytesOf 47 = 32 := by kernel_rfl
def B61 (x : S61) : Prop := (Lit.int .u8 x.f0).wf = true ∧ (Lit.int .i64 x.f1).wf = true ∧ (Lit.int .i64 x.f2).wf = true
theorem cells61 : Try.prog.cellsOf 61 = 3 := by kernel_rfl
theorem opens61 : O.Opens Try.prog 61 k61 B61 := by
  intro H enc w base spare held fuel cs x h hw
  obtain ⟨ys, n, rfl, rfl, hlen, hyl, hf⟩ := DataW.trod_struct Try.underlying61 h
  rw [cells61] at hlen
  obtain ⟨c0, c1, c2, rfl⟩ : ∃ c0 c1 c2, cs = [c0, c1, c2] := by
    match cs, hlen with
    | [c0, c1, c2], _ => exact ⟨c0, c1, c2, rfl⟩
  obtain ⟨y0, y1, y2, rfl⟩ : ∃ y0 y1 y2, ys = [y0, y1, y2] := by
    match ys, hyl with
    | [y0, y1, y2], _ => exact ⟨y0, y1, y2, rfl⟩
  have f0 := hf 0 { name := "Kind", type := 59, offset := 0, embedded := false, tag := "", pkgPath := "", byteOffset := 0 } rfl
  have f1 := hf 1 { name := "From", type := 3, offset := 1, embedded := false, tag := "", pkgPath := "", byteOffset := 8 } rfl
  have f2 := hf 2 { name := "To", type := 3, offset := 2, embedded := false, tag := "", pkgPath := "", byteOffset := 16 } rfl
  simp only [cells3, cells59, List.drop_zero, List.drop_succ_cons, List.take_succ_cons, List.take_zero, List.getElem?_cons_zero, List.getElem?_cons_succ] at f0 f1 f2
  have hq : ∀ (j : Nat) (t : TypeId) (d : DataW H), [59, 3, 3][j]? = some t → [y0.1, y1.1, y2.1][j]? = some d → ∀ n ∈ d.weights Try.prog t, n ≤ reachBytes := by
    intro j t d h1 h2 q hq
    refine hw q ?_
    simp only [DataW.weights, Try.underlying61]
    exact DataW.weights_mem_each (j := j) h1 h2 q hq
  obtain ⟨a0, e0, w0⟩ := O.opens_int Try.underlying59 f0 (hq 0 _ _ rfl rfl)
  obtain rfl : c0 = .int .u8 a0 := (List.cons.inj e0).1
  obtain ⟨a1, e1, w1⟩ := O.opens_int Try.underlying3 f1 (hq 1 _ _ rfl rfl)
  obtain rfl : c1 = .int .i64 a1 := (List.cons.inj e1).1
  obtain ⟨a2, e2, w2⟩ := O.opens_int Try.underlying3 f2 (hq 2 _ _ rfl rfl)
  obtain rfl : c2 = .int .i64 a2 := (List.cons.inj e2).1
  exact ⟨⟨a0, a1, a2⟩, k61_mk w _, w0, w1, w2⟩
def B47 (x : S47) : Prop := (Lit.int .u8 x.f0).wf = true ∧ (Lit.int .i64 x.f1).wf = true ∧ (Lit.int .i64 x.f2).wf = true ∧ (Lit.int .i64 x.f3).wf = true
theorem cells47 : Try.prog.cellsOf 47 = 4 := by kernel_rfl
theorem opens47 : O.Opens Try.prog 47 k47 B47 := by
  intro H enc w base spare held fuel cs x h hw
  obtain ⟨ys, n, rfl, rfl, hlen, hyl, hf⟩ := DataW.trod_struct Try.underlying47 h
  rw [cells47] at hlen
  obtain ⟨c0, c1, c2, c3, rfl⟩ : ∃ c0 c1 c2 c3, cs = [c0, c1, c2, c3] := by
    match cs, hlen with
    | [c0, c1, c2, c3], _ => exact ⟨c0, c1, c2, c3, rfl⟩
  obtain ⟨y0, y1, y2, y3, rfl⟩ : ∃ y0 y1 y2 y3, ys = [y0, y1, y2, y3] := by
    match ys, hyl with
    | [y0, y1, y2, y3], _ => exact ⟨y0, y1, y2, y3, rfl⟩
  have f0 := hf 0 { name := "Kind", type := 45, offset := 0, embedded := false, tag := "", pkgPath := "", byteOffset := 0 } rfl
  have f1 := hf 1 { name := "First", type := 3, offset := 1, embedded := false, tag := "", pkgPath := "", byteOffset := 8 } rfl
  have f2 := hf 2 { name := "End", type := 3, offset := 2, embedded := false, tag := "", pkgPath := "", byteOffset := 16 } rfl
  have f3 := hf 3 { name := "Size", type := 3, offset := 3, embedded := false, tag := "", pkgPath := "", byteOffset := 24 } rfl
  simp only [cells3, cells45, List.drop_zero, List.drop_succ_cons, List.take_succ_cons, List.take_zero, List.getElem?_cons_zero, List.getElem?_cons_succ] at f0 f1 f2 f3
  have hq : ∀ (j : Nat) (t : TypeId) (d : DataW H), [45, 3, 3, 3][j]? = some t → [y0.1, y1.1, y2.1, y3.1][j]? = some d → ∀ n ∈ d.weights Try.prog t, n ≤ reachBytes := by
    intro j t d h1 h2 q hq
    refine hw q ?_
    simp only [DataW.weights, Try.underlying47]
    exact DataW.weights_mem_each (j := j) h1 h2 q hq
  obtain ⟨a0, e0, w0⟩ := O.opens_int Try.underlying45 f0 (hq 0 _ _ rfl rfl)
  obtain rfl : c0 = .int .u8 a0 := (List.cons.inj e0).1
  obtain ⟨a1, e1, w1⟩ := O.opens_int Try.underlying3 f1 (hq 1 _ _ rfl rfl)
  obtain rfl : c1 = .int .i64 a1 := (List.cons.inj e1).1
  obtain ⟨a2, e2, w2⟩ := O.opens_int Try.underlying3 f2 (hq 2 _ _ rfl rfl)
  obtain rfl : c2 = .int .i64 a2 := (List.cons.inj e2).1
  obtain ⟨a3, e3, w3⟩ := O.opens_int Try.underlying3 f3 (hq 3 _ _ rfl rfl)
  obtain rfl : c3 = .int .i64 a3 := (List.cons.inj e3).1
  exact ⟨⟨a0, a1, a2, a3⟩, k47_mk w _, w0, w1, w2, w3⟩

theorem slice_cells {P : Program} {t e : TypeId} (hu : P.underlying t = some (.slice e)) {H : Type} {enc : TypeId × Value → H} {w : World} {base : Nat} {spare : Nat → Bool} {held : Bool} {fuel : Nat} {cs : List Value} {x : DataW H × List MemPlace}
    (h : DataW.trod enc P w base spare held fuel t cs = some x) : ∃ A n c, cs = [.slice A n c] := by
  rcases open_slice hu h with ⟨hcs, _⟩ | ⟨a, len, cap, m, fu, D, Pl, hcs, _⟩
  · exact ⟨_, _, _, hcs⟩
  · exact ⟨_, _, _, hcs⟩

/-- A Forest that came in. -/
theorem open27 {H : Type} {enc : TypeId × Value → H} {W : World} {base b0 : Nat} {r : Reach} {spare : Nat → Bool} {held : Bool} {v : Value} {d : DataW H} {p : List MemPlace} (hv : Value.okWide Try.prog W r b0 27 v) (h : DataW.Trod enc Try.prog W base spare held 27 v d p) (hw : ∀ n ∈ d.weights Try.prog 27, n ≤ reachBytes) :
    ∃ (t : ByteArray) (A1 : Option Addr) (c1 : Nat) (ps : List S61) (A2 : Option Addr) (c2 : Nat) (ns : List S47), v = .agg #[.string t, .slice A1 ps.length c1, .slice A2 ns.length c2] ∧ t.size ≤ 140737488351232 ∧
      Kd.C k61 W A1 ps.length ps ∧ ps.length ≤ c1 ∧ (A1 = none → c1 = 0) ∧ (∀ x ∈ ps, B61 x) ∧ ps.length * 24 ≤ 140737488351232 ∧ Kd.C k47 W A2 ns.length ns ∧ ns.length ≤ c2 ∧ (A2 = none → c2 = 0) ∧ (∀ x ∈ ns, B47 x) ∧ ns.length * 32 ≤ 140737488351232 := by
  obtain ⟨cs, rfl, hsz⟩ := okWide_struct Try.underlying27 hv
  rw [cells27] at hsz
  obtain ⟨l⟩ := cs
  obtain ⟨c0, c1, c2, rfl⟩ : ∃ a b c, l = [a, b, c] := by
    match l, hsz with
    | [a, b, c], _ => exact ⟨a, b, c, rfl⟩
  obtain ⟨fuel, hf⟩ := h
  obtain ⟨ys, n, _, hd, _, hyl, hg⟩ := DataW.trod_struct Try.underlying27 hf
  obtain ⟨y0, y1, y2, rfl⟩ : ∃ a b c, ys = [a, b, c] := by
    match ys, hyl with
    | [a, b, c], _ => exact ⟨a, b, c, rfl⟩
  obtain ⟨rfl, rfl⟩ := Prod.mk.inj hd
  have f0 := hg 0 { name := "Text", type := 9, offset := 0, embedded := false, tag := "", pkgPath := "", byteOffset := 0 } rfl
  have f1 := hg 1 { name := "Pieces", type := 22, offset := 1, embedded := false, tag := "", pkgPath := "", byteOffset := 16 } rfl
  have f2 := hg 2 { name := "Tree", type := 25, offset := 2, embedded := false, tag := "", pkgPath := "", byteOffset := 40 } rfl
  simp only [Value.cells, cells9, cells22, cells25, List.drop_zero, List.drop_succ_cons, List.take_succ_cons, List.take_zero, List.getElem?_cons_zero, List.getElem?_cons_succ] at f0 f1 f2
  have hq : ∀ (j : Nat) (t : TypeId) (d : DataW H), [9, 22, 25][j]? = some t → [y0.1, y1.1, y2.1][j]? = some d → ∀ n ∈ d.weights Try.prog t, n ≤ reachBytes := by
    intro j t d h1 h2 q hq
    refine hw q ?_
    simp only [DataW.weights, Try.underlying27]
    exact DataW.weights_mem_each (j := j) h1 h2 q hq
  obtain ⟨t, e0, ht⟩ := O.opens_string Try.underlying9 f0 (hq 0 _ _ rfl rfl)
  obtain rfl : c0 = .string t := (List.cons.inj e0).1
  obtain ⟨A1, n1, k1, e1⟩ := slice_cells Try.underlying22 f1
  obtain rfl : c1 = .slice A1 n1 k1 := (List.cons.inj e1).1
  obtain ⟨ps, rfl, p1, p2, p3, p4, p5⟩ := O.open_row Try.underlying22 opens61 cells61 f1 (hq 1 _ _ rfl rfl)
  obtain ⟨zs, n', _, hz, _, hzl, hg2⟩ := DataW.trod_struct Try.underlying25 f2
  obtain ⟨z0, rfl⟩ : ∃ a, zs = [a] := by
    match zs, hzl with
    | [a], _ => exact ⟨a, rfl⟩
  have f3 := hg2 0 { name := "Nodes", type := 23, offset := 0, embedded := false, tag := "", pkgPath := "", byteOffset := 0 } rfl
  simp only [cells23, List.drop_zero, List.take_succ_cons, List.take_zero, List.getElem?_cons_zero] at f3
  obtain ⟨A2, n2, k2, e2⟩ := slice_cells Try.underlying23 f3
  obtain rfl : c2 = .slice A2 n2 k2 := (List.cons.inj e2).1
  have hq3 : ∀ n ∈ z0.1.weights Try.prog 23, n ≤ reachBytes := by
    intro q hq1
    refine hq 2 _ _ rfl rfl q ?_
    rw [hz]
    simp only [List.map_cons, List.map_nil, DataW.weights, Try.underlying25]
    exact DataW.weights_mem_each (j := 0) (ts := [23]) (ds := [z0.1]) rfl rfl q hq1
  obtain ⟨ns, rfl, q1, q2, q3, q4, q5⟩ := O.open_row Try.underlying23 opens47 cells47 f3 hq3
  rw [bytes61] at p5
  rw [bytes47] at q5
  exact ⟨t, A1, k1, ps, A2, k2, ns, rfl, ht, p1, p2, p3, p4, p5, q1, q2, q3, q4, q5⟩
end Go.Proofs.Ytodldpdnhcafpaa.H
