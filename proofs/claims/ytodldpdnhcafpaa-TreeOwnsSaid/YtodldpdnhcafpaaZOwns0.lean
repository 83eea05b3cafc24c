/- Texts of the proof of one law (Owns), part 0: functions printed as Lean functions with their walks, and what is proved of them. Conditions: those of each theorem. -/
import Derived.Test.YtodldpdnhcafpaaProg
import Derived.Below
import Derived.Deep.Draws
import Derived.Deep.AppendLies
import Derived.Maps.AppendAt
import Derived.OwnWalk
import Derived.Laws.BytesArg
import Derived.Laws.MakeOwn
import Derived.Laws.OwnMore
import Derived.Deep.OwnRows
import Derived.Tactics
import Derived.Lib.ConvBytes
import Derived.Laws.Slices
import Derived.WalkKit
import Derived.KernelRfl
import Derived.RowKit3
import Derived.Deep.LoopGhost
import Derived.Deep.QuietTactic
import Derived.BigQuiet
import Derived.WideLaws
import Derived.Deep.DeepCutAuto
import Derived.Deep.CutBlock
import Derived.Deep.RegionHeld3
import Derived.Laws.Rows
import Derived.Lib.AppendStr
import Derived.ArgAppend
import Derived.Laws.IdiomCopy
import Derived.OrdersHeld
import Derived.Laws.BitsLemmas
import Derived.WalkMore
import Derived.RowKit
import Derived.Test.YtodldpdnhcafpaaWWords
import Derived.Test.YtodldpdnhcafpaaWLast
import Derived.Test.YtodldpdnhcafpaaWTab
import Derived.Test.YtodldpdnhcafpaaWFour
import Derived.Test.YtodldpdnhcafpaaWQPut
import Derived.Test.YtodldpdnhcafpaaWApart
import Derived.Test.YtodldpdnhcafpaaWArr
import Derived.Test.YtodldpdnhcafpaaWZeros
import Derived.Test.YtodldpdnhcafpaaWFoot
import Derived.Test.YtodldpdnhcafpaaWKept
import Derived.Test.YtodldpdnhcafpaaWShare
import Derived.Test.YtodldpdnhcafpaaWN
import Derived.Test.YtodldpdnhcafpaaWFootNe
import Derived.Test.YtodldpdnhcafpaaWAt
import Derived.Test.YtodldpdnhcafpaaWEqStruct
import Derived.Test.YtodldpdnhcafpaaWRepsOne
import Derived.Test.YtodldpdnhcafpaaWInv
import Derived.Test.YtodldpdnhcafpaaWInvWords
import Derived.Test.YtodldpdnhcafpaaWGuard
import Derived.Test.YtodldpdnhcafpaaWNEv
import Derived.Test.YtodldpdnhcafpaaWMore
import Derived.RangeFuncNested
import Derived.RangeFuncBound
import Derived.RangeFuncCalls
import Derived.RangeFuncLeaves
import Derived.RangeFuncBox
import Derived.Shelf.Abstract
import Derived.Shelf.RegionOpen
import Derived.OwnWalkIn
import Derived.TacticsInMore
import Derived.LoopNIn
import Derived.LoopIn
import Derived.OrdersIn
-- A text of this session's own program (wip/myprint.sh over a changed print tool): functions and their walks
namespace Go.Proofs.Ytodldpdnhcafpaa.F
open Go.RowKit Go.Proofs.YtodldpdnhcafpaaW.PrintWords Go.Proofs.YtodldpdnhcafpaaW.PrintLast Go.Proofs.YtodldpdnhcafpaaW.PrintMore
attribute [local go_sem] max2_int min2_int max_two min_two max_three min_three max_four min_four   -- for this text's walks alone
set_option linter.unusedVariables false
set_option linter.unusedSimpArgs false



def errW : Option Int → Value
  | none => .nilIface
  | some c => .iface 0 (.int .i64 c)
theorem errW_none : errW none = .nilIface := rfl
theorem errW_some (c : Int) : errW (some c) = .iface 0 (.int .i64 c) := rfl

theorem info3 : (Try.prog.info? 3).map (fun i => (i.zero, i.size, i.bytes)) = some (some (.int .i64 0), 1, 8) := by kernel_rfl
theorem info47 : (Try.prog.info? 47).map (fun i => (i.zero, i.size, i.bytes)) = some (some (.agg #[(.int .u8 0), (.int .i64 0), (.int .i64 0), (.int .i64 0)]), 4, 32) := by kernel_rfl
theorem info61 : (Try.prog.info? 61).map (fun i => (i.zero, i.size, i.bytes)) = some (some (.agg #[(.int .u8 0), (.int .i64 0), (.int .i64 0)]), 3, 24) := by kernel_rfl
-- the values' own types
/-! #### struct type 61 -/
structure S61 where
  f0 : Int
  f1 : Int
  f2 : Int
def z61 : S61 := ⟨(0 : Int), (0 : Int), (0 : Int)⟩
def k61 : Kd S61 := Kd.iso (Kd.pair (Kd.int .u8) (Kd.pair (Kd.int .i64) (Kd.int .i64))) (fun x : S61 => (x.f0, x.f1, x.f2))
theorem k61_open {w : World} {x : S61} {cs : List Value} (h : k61.K w x cs) : cs = [.int .u8 x.f0, .int .i64 x.f1, .int .i64 x.f2] := by
  obtain ⟨_, _, rfl, rfl, ⟨_, _, rfl, rfl, rfl⟩⟩ := h
  exact rfl
theorem k61_mk (w : World) (x : S61)  : k61.K w x [.int .u8 x.f0, .int .i64 x.f1, .int .i64 x.f2] := ⟨[.int .u8 x.f0], [.int .i64 x.f1, .int .i64 x.f2], rfl, rfl, ⟨[.int .i64 x.f1], [.int .i64 x.f2], rfl, rfl, rfl⟩⟩
def rd_T61 (xs : List S61) (i : Int) : S61 := xs.getD i.toNat z61
theorem at_T61 {w : World} {A : Option Addr} {n : Nat} {xs : List S61} (h : Kd.C k61 w A n xs) (i : Int) (h0 : 0 ≤ i) (h1 : i < n) : ∃ ad , A = some ad ∧ w.cell? (ad.add (i.toNat * 3)) = some (.int .u8 (rd_T61 xs i).f0) ∧ w.cell? ⟨(ad.add (i.toNat * 3)).block, (ad.add (i.toNat * 3)).off + 1, none⟩ = some (.int .i64 (rd_T61 xs i).f1) ∧ w.cell? ⟨(ad.add (i.toNat * 3)).block, (ad.add (i.toNat * 3)).off + 2, none⟩ = some (.int .i64 (rd_T61 xs i).f2) := by
  obtain ⟨ad, c, e, _, hK, hc0⟩ := Kd.C_get h z61 i h0 h1
  have hc : ∀ j u, c[j]? = some u → w.cell? (ad.add (i.toNat * 3 + j)) = some u := hc0
  obtain rfl := k61_open hK
  exact ⟨ad, e, hc 0 _ rfl, by rw [← add_field _ _ 1 (by omega)]; exact hc 1 _ rfl, by rw [← add_field _ _ 2 (by omega)]; exact hc 2 _ rfl⟩

/-! #### struct type 47 -/
structure S47 where
  f0 : Int
  f1 : Int
  f2 : Int
  f3 : Int
def z47 : S47 := ⟨(0 : Int), (0 : Int), (0 : Int), (0 : Int)⟩
def k47 : Kd S47 := Kd.iso (Kd.pair (Kd.int .u8) (Kd.pair (Kd.int .i64) (Kd.pair (Kd.int .i64) (Kd.int .i64)))) (fun x : S47 => (x.f0, x.f1, x.f2, x.f3))
theorem k47_open {w : World} {x : S47} {cs : List Value} (h : k47.K w x cs) : cs = [.int .u8 x.f0, .int .i64 x.f1, .int .i64 x.f2, .int .i64 x.f3] := by
  obtain ⟨_, _, rfl, rfl, ⟨_, _, rfl, rfl, ⟨_, _, rfl, rfl, rfl⟩⟩⟩ := h
  exact rfl
theorem k47_mk (w : World) (x : S47)  : k47.K w x [.int .u8 x.f0, .int .i64 x.f1, .int .i64 x.f2, .int .i64 x.f3] := ⟨[.int .u8 x.f0], [.int .i64 x.f1, .int .i64 x.f2, .int .i64 x.f3], rfl, rfl, ⟨[.int .i64 x.f1], [.int .i64 x.f2, .int .i64 x.f3], rfl, rfl, ⟨[.int .i64 x.f2], [.int .i64 x.f3], rfl, rfl, rfl⟩⟩⟩
def rd_T47 (xs : List S47) (i : Int) : S47 := xs.getD i.toNat z47
theorem at_T47 {w : World} {A : Option Addr} {n : Nat} {xs : List S47} (h : Kd.C k47 w A n xs) (i : Int) (h0 : 0 ≤ i) (h1 : i < n) : ∃ ad , A = some ad ∧ w.cell? (ad.add (i.toNat * 4)) = some (.int .u8 (rd_T47 xs i).f0) ∧ w.cell? ⟨(ad.add (i.toNat * 4)).block, (ad.add (i.toNat * 4)).off + 1, none⟩ = some (.int .i64 (rd_T47 xs i).f1) ∧ w.cell? ⟨(ad.add (i.toNat * 4)).block, (ad.add (i.toNat * 4)).off + 2, none⟩ = some (.int .i64 (rd_T47 xs i).f2) ∧ w.cell? ⟨(ad.add (i.toNat * 4)).block, (ad.add (i.toNat * 4)).off + 3, none⟩ = some (.int .i64 (rd_T47 xs i).f3) := by
  obtain ⟨ad, c, e, _, hK, hc0⟩ := Kd.C_get h z47 i h0 h1
  have hc : ∀ j u, c[j]? = some u → w.cell? (ad.add (i.toNat * 4 + j)) = some u := hc0
  obtain rfl := k47_open hK
  exact ⟨ad, e, hc 0 _ rfl, by rw [← add_field _ _ 1 (by omega)]; exact hc 1 _ rfl, by rw [← add_field _ _ 2 (by omega)]; exact hc 2 _ rfl, by rw [← add_field _ _ 3 (by omega)]; exact hc 3 _ rfl⟩

end Go.Proofs.Ytodldpdnhcafpaa.F

-- A text of this session's own program (wip/myprint.sh over a changed print tool): functions and their walks
namespace Go.Proofs.Ytodldpdnhcafpaa.F
open Go.RowKit Go.Proofs.YtodldpdnhcafpaaW.PrintWords Go.Proofs.YtodldpdnhcafpaaW.PrintLast Go.Proofs.YtodldpdnhcafpaaW.PrintMore
attribute [local go_sem] max2_int min2_int max_two min_two max_three min_three max_four min_four   -- for this text's walks alone
set_option linter.unusedVariables false
set_option linter.unusedSimpArgs false

/-! ### tree_sized: function 51 -/
def tree_sized.f (l0_0 : List (S47)) (a1 : Int) : Option (Bool) := if a1 ≥ 0 then (if a1 < (l0_0.length : Int) then (if 0 ≤ a1 then (if ((rd_T47 l0_0 a1).f3) ≥ 1 then (some (decide (((rd_T47 l0_0 a1).f3) ≤ (wrap64 ((l0_0.length : Int) - a1))))) else (some false)) else (none)) else (some false)) else (some false)
set_option maxHeartbeats 8000000 in
set_option maxRecDepth 100000 in
theorem tree_sized.calls (A0_0 : Option Addr) (c0_0 : Nat) (l0_0 : List (S47)) (a1 : Int) (r : Bool) (w : World) (hr0_0 : Kd.C k47 w A0_0 l0_0.length l0_0) (hc0_0 : l0_0.length ≤ c0_0) (h : tree_sized.f l0_0 a1 = some r) :
    Calls Try.prog 51 #[.agg #[.slice A0_0 l0_0.length c0_0], .int .i64 a1] w fun e w' => e = .returned (.bool r) ∧ Below w.heap.size w w' := by
  have hu25 := Try.underlying25
  have HR0_0 := Aside0.mk hr0_0
  have HC0_0 := Aside0.mk hc0_0
  clear hr0_0 hc0_0
  have HB := Aside0.mk (Below.refl w.heap.size w)
  have H : (if a1 ≥ 0 then (if a1 < (l0_0.length : Int) then (if 0 ≤ a1 then (if ((rd_T47 l0_0 a1).f3) ≥ 1 then (some (decide (((rd_T47 l0_0 a1).f3) ≤ (wrap64 ((l0_0.length : Int) - a1))))) else (some false)) else (none)) else (some false)) else (some false)) = some r := h
  clear h
  by_cases c3 : a1 ≥ 0
  · rw [if_pos c3] at H
    have c3b0 : decide (0 ≤ a1) = true := decide_eq_true c3
    clear c3
    by_cases c4 : a1 < (l0_0.length : Int)
    · rw [if_pos c4] at H
      have c4b0 : decide (a1 < (l0_0.length : Int)) = true := decide_eq_true c4
      clear c4
      by_cases c5 : 0 ≤ a1
      · rw [if_pos c5] at H
        have c5b0 : decide (0 ≤ a1) = true := decide_eq_true c5
        clear c5
        by_cases c6 : ((rd_T47 l0_0 a1).f3) ≥ 1
        · rw [if_pos c6] at H
          have c6b0 : decide (1 ≤ ((rd_T47 l0_0 a1).f3)) = true := decide_eq_true c6
          clear c6
          obtain rfl := Option.some.inj H
          go_enter Try.func51, Try.ntmps51
          go_wp2_with (first | ((with_reducible refine gate_dst (N := 2) rfl ?_); (try (refine gate_guard (by rfl) ?_; dsimp only)); refine box_event ?hg (N := 2) ?hd (cs := #[.slice A0_0 l0_0.length c0_0]) (t := 25) ?hr ?_; (case hd => rfl); (case hg => rfl); (case hr => first | (go_simp; done) | (go_simp; rfl)); intro gb219 hg w7 hbox hb; have n0_ := Aside0.mk (below_step (by repeat (first | (with_reducible first | exact HB.out | apply below_alloc | apply pw_below_drewN | apply below_drew1) | exact HB.out)) hb); have n1_ := Aside0.mk (hbox); have n2_ := Aside0.mk ((by rw [hg]; exact (below_size (by repeat (first | (with_reducible first | exact HB.out | apply below_alloc | apply pw_below_drewN | apply below_drew1) | exact HB.out))) : w.heap.size ≤ gb219)); have n3_ := Aside0.mk ((by rw [hg]; exact (below_size (by repeat (first | (with_reducible first | exact HB.out | apply below_alloc | apply pw_below_drewN | apply below_drew1) | exact HB.out))) : w.heap.size ≤ gb219)); clear HB; have HB := n0_; have BK219 := n1_; have GW219 := n2_; have GE219 := n3_; clear n0_ n1_ n2_ n3_; clear hb hbox hg; have hcz8_0 : w7.cell? ⟨gb219, 0, none⟩ = some (.slice A0_0 l0_0.length c0_0) := (blk_cell BK219.out 0).trans rfl; have hfz8_0 := blk_frozen BK219.out 0; have p220 : 0 ≤ (a1 : Int) := of_decide_eq_true (by first | (with_reducible assumption) | assumption); have q220 : a1 < (l0_0.length : Int) := of_decide_eq_true (by first | (with_reducible assumption) | assumption); obtain ⟨ad220, e220, hx220_0, hx220_1, hx220_2, hx220_3⟩ := at_T47 HR0_0.out a1 p220 q220; cases e220; replace hx220_0 := (HB.out.cell (World.block_lt_of_cell? w _ hx220_0)).trans hx220_0; replace hx220_1 := (HB.out.cell (World.block_lt_of_cell? w _ hx220_1)).trans hx220_1; replace hx220_2 := (HB.out.cell (World.block_lt_of_cell? w _ hx220_2)).trans hx220_2; replace hx220_3 := (HB.out.cell (World.block_lt_of_cell? w _ hx220_3)).trans hx220_3; replace p220 := eq_true p220; replace q220 := eq_true q220; have p221 : 0 ≤ (a1 : Int) := of_decide_eq_true (by first | (with_reducible assumption) | assumption); have q221 : a1 < (l0_0.length : Int) := of_decide_eq_true (by first | (with_reducible assumption) | assumption); obtain ⟨ad221, e221, hx221_0, hx221_1, hx221_2, hx221_3⟩ := at_T47 HR0_0.out a1 p221 q221; obtain rfl : ad220 = ad221 := (by injection e221); replace hx221_0 := (HB.out.cell (World.block_lt_of_cell? w _ hx221_0)).trans hx221_0; replace hx221_1 := (HB.out.cell (World.block_lt_of_cell? w _ hx221_1)).trans hx221_1; replace hx221_2 := (HB.out.cell (World.block_lt_of_cell? w _ hx221_2)).trans hx221_2; replace hx221_3 := (HB.out.cell (World.block_lt_of_cell? w _ hx221_3)).trans hx221_3; replace p221 := eq_true p221; replace q221 := eq_true q221))
          repeat (go_quiet (first | ((with_reducible refine gate_dst (N := 2) rfl ?_); (try (refine gate_guard (by rfl) ?_; dsimp only)); refine box_event ?hg (N := 2) ?hd (cs := #[.slice A0_0 l0_0.length c0_0]) (t := 25) ?hr ?_; (case hd => rfl); (case hg => rfl); (case hr => first | (go_simp; done) | (go_simp; rfl)); intro gb219 hg w7 hbox hb; have n0_ := Aside0.mk (below_step (by repeat (first | (with_reducible first | exact HB.out | apply below_alloc | apply pw_below_drewN | apply below_drew1) | exact HB.out)) hb); have n1_ := Aside0.mk (hbox); have n2_ := Aside0.mk ((by rw [hg]; exact (below_size (by repeat (first | (with_reducible first | exact HB.out | apply below_alloc | apply pw_below_drewN | apply below_drew1) | exact HB.out))) : w.heap.size ≤ gb219)); have n3_ := Aside0.mk ((by rw [hg]; exact (below_size (by repeat (first | (with_reducible first | exact HB.out | apply below_alloc | apply pw_below_drewN | apply below_drew1) | exact HB.out))) : w.heap.size ≤ gb219)); clear HB; have HB := n0_; have BK219 := n1_; have GW219 := n2_; have GE219 := n3_; clear n0_ n1_ n2_ n3_; clear hb hbox hg; have hcz8_0 : w7.cell? ⟨gb219, 0, none⟩ = some (.slice A0_0 l0_0.length c0_0) := (blk_cell BK219.out 0).trans rfl; have hfz8_0 := blk_frozen BK219.out 0; have p220 : 0 ≤ (a1 : Int) := of_decide_eq_true (by first | (with_reducible assumption) | assumption); have q220 : a1 < (l0_0.length : Int) := of_decide_eq_true (by first | (with_reducible assumption) | assumption); obtain ⟨ad220, e220, hx220_0, hx220_1, hx220_2, hx220_3⟩ := at_T47 HR0_0.out a1 p220 q220; cases e220; replace hx220_0 := (HB.out.cell (World.block_lt_of_cell? w _ hx220_0)).trans hx220_0; replace hx220_1 := (HB.out.cell (World.block_lt_of_cell? w _ hx220_1)).trans hx220_1; replace hx220_2 := (HB.out.cell (World.block_lt_of_cell? w _ hx220_2)).trans hx220_2; replace hx220_3 := (HB.out.cell (World.block_lt_of_cell? w _ hx220_3)).trans hx220_3; replace p220 := eq_true p220; replace q220 := eq_true q220; have p221 : 0 ≤ (a1 : Int) := of_decide_eq_true (by first | (with_reducible assumption) | assumption); have q221 : a1 < (l0_0.length : Int) := of_decide_eq_true (by first | (with_reducible assumption) | assumption); obtain ⟨ad221, e221, hx221_0, hx221_1, hx221_2, hx221_3⟩ := at_T47 HR0_0.out a1 p221 q221; obtain rfl : ad220 = ad221 := (by injection e221); replace hx221_0 := (HB.out.cell (World.block_lt_of_cell? w _ hx221_0)).trans hx221_0; replace hx221_1 := (HB.out.cell (World.block_lt_of_cell? w _ hx221_1)).trans hx221_1; replace hx221_2 := (HB.out.cell (World.block_lt_of_cell? w _ hx221_2)).trans hx221_2; replace hx221_3 := (HB.out.cell (World.block_lt_of_cell? w _ hx221_3)).trans hx221_3; replace p221 := eq_true p221; replace q221 := eq_true q221)); try go_wp2_with (first | ((with_reducible refine gate_dst (N := 2) rfl ?_); (try (refine gate_guard (by rfl) ?_; dsimp only)); refine box_event ?hg (N := 2) ?hd (cs := #[.slice A0_0 l0_0.length c0_0]) (t := 25) ?hr ?_; (case hd => rfl); (case hg => rfl); (case hr => first | (go_simp; done) | (go_simp; rfl)); intro gb219 hg w7 hbox hb; have n0_ := Aside0.mk (below_step (by repeat (first | (with_reducible first | exact HB.out | apply below_alloc | apply pw_below_drewN | apply below_drew1) | exact HB.out)) hb); have n1_ := Aside0.mk (hbox); have n2_ := Aside0.mk ((by rw [hg]; exact (below_size (by repeat (first | (with_reducible first | exact HB.out | apply below_alloc | apply pw_below_drewN | apply below_drew1) | exact HB.out))) : w.heap.size ≤ gb219)); have n3_ := Aside0.mk ((by rw [hg]; exact (below_size (by repeat (first | (with_reducible first | exact HB.out | apply below_alloc | apply pw_below_drewN | apply below_drew1) | exact HB.out))) : w.heap.size ≤ gb219)); clear HB; have HB := n0_; have BK219 := n1_; have GW219 := n2_; have GE219 := n3_; clear n0_ n1_ n2_ n3_; clear hb hbox hg; have hcz8_0 : w7.cell? ⟨gb219, 0, none⟩ = some (.slice A0_0 l0_0.length c0_0) := (blk_cell BK219.out 0).trans rfl; have hfz8_0 := blk_frozen BK219.out 0; have p220 : 0 ≤ (a1 : Int) := of_decide_eq_true (by first | (with_reducible assumption) | assumption); have q220 : a1 < (l0_0.length : Int) := of_decide_eq_true (by first | (with_reducible assumption) | assumption); obtain ⟨ad220, e220, hx220_0, hx220_1, hx220_2, hx220_3⟩ := at_T47 HR0_0.out a1 p220 q220; cases e220; replace hx220_0 := (HB.out.cell (World.block_lt_of_cell? w _ hx220_0)).trans hx220_0; replace hx220_1 := (HB.out.cell (World.block_lt_of_cell? w _ hx220_1)).trans hx220_1; replace hx220_2 := (HB.out.cell (World.block_lt_of_cell? w _ hx220_2)).trans hx220_2; replace hx220_3 := (HB.out.cell (World.block_lt_of_cell? w _ hx220_3)).trans hx220_3; replace p220 := eq_true p220; replace q220 := eq_true q220; have p221 : 0 ≤ (a1 : Int) := of_decide_eq_true (by first | (with_reducible assumption) | assumption); have q221 : a1 < (l0_0.length : Int) := of_decide_eq_true (by first | (with_reducible assumption) | assumption); obtain ⟨ad221, e221, hx221_0, hx221_1, hx221_2, hx221_3⟩ := at_T47 HR0_0.out a1 p221 q221; obtain rfl : ad220 = ad221 := (by injection e221); replace hx221_0 := (HB.out.cell (World.block_lt_of_cell? w _ hx221_0)).trans hx221_0; replace hx221_1 := (HB.out.cell (World.block_lt_of_cell? w _ hx221_1)).trans hx221_1; replace hx221_2 := (HB.out.cell (World.block_lt_of_cell? w _ hx221_2)).trans hx221_2; replace hx221_3 := (HB.out.cell (World.block_lt_of_cell? w _ hx221_3)).trans hx221_3; replace p221 := eq_true p221; replace q221 := eq_true q221)))
          go_ret
          exact ⟨by first | rfl | (simp [errW_none, errW_some] <;> rfl) | (simp [*, errW_none, errW_some] <;> rfl), by repeat (first | (with_reducible first | exact HB.out | apply below_alloc | apply pw_below_drewN | apply below_drew1 | refine below_set ?_ GE219.out) | exact HB.out)⟩
        · rw [if_neg c6] at H
          have c6b0 : decide (1 ≤ ((rd_T47 l0_0 a1).f3)) = false := decide_eq_false c6
          clear c6
          obtain rfl := Option.some.inj H
          go_enter Try.func51, Try.ntmps51
          go_wp2_with (first | ((with_reducible refine gate_dst (N := 2) rfl ?_); (try (refine gate_guard (by rfl) ?_; dsimp only)); refine box_event ?hg (N := 2) ?hd (cs := #[.slice A0_0 l0_0.length c0_0]) (t := 25) ?hr ?_; (case hd => rfl); (case hg => rfl); (case hr => first | (go_simp; done) | (go_simp; rfl)); intro gb219 hg w9 hbox hb; have n0_ := Aside0.mk (below_step (by repeat (first | (with_reducible first | exact HB.out | apply below_alloc | apply pw_below_drewN | apply below_drew1) | exact HB.out)) hb); have n1_ := Aside0.mk (hbox); have n2_ := Aside0.mk ((by rw [hg]; exact (below_size (by repeat (first | (with_reducible first | exact HB.out | apply below_alloc | apply pw_below_drewN | apply below_drew1) | exact HB.out))) : w.heap.size ≤ gb219)); have n3_ := Aside0.mk ((by rw [hg]; exact (below_size (by repeat (first | (with_reducible first | exact HB.out | apply below_alloc | apply pw_below_drewN | apply below_drew1) | exact HB.out))) : w.heap.size ≤ gb219)); clear HB; have HB := n0_; have BK219 := n1_; have GW219 := n2_; have GE219 := n3_; clear n0_ n1_ n2_ n3_; clear hb hbox hg; have hcz10_0 : w9.cell? ⟨gb219, 0, none⟩ = some (.slice A0_0 l0_0.length c0_0) := (blk_cell BK219.out 0).trans rfl; have hfz10_0 := blk_frozen BK219.out 0; have p220 : 0 ≤ (a1 : Int) := of_decide_eq_true (by first | (with_reducible assumption) | assumption); have q220 : a1 < (l0_0.length : Int) := of_decide_eq_true (by first | (with_reducible assumption) | assumption); obtain ⟨ad220, e220, hx220_0, hx220_1, hx220_2, hx220_3⟩ := at_T47 HR0_0.out a1 p220 q220; cases e220; replace hx220_0 := (HB.out.cell (World.block_lt_of_cell? w _ hx220_0)).trans hx220_0; replace hx220_1 := (HB.out.cell (World.block_lt_of_cell? w _ hx220_1)).trans hx220_1; replace hx220_2 := (HB.out.cell (World.block_lt_of_cell? w _ hx220_2)).trans hx220_2; replace hx220_3 := (HB.out.cell (World.block_lt_of_cell? w _ hx220_3)).trans hx220_3; replace p220 := eq_true p220; replace q220 := eq_true q220))
          repeat (go_quiet (first | ((with_reducible refine gate_dst (N := 2) rfl ?_); (try (refine gate_guard (by rfl) ?_; dsimp only)); refine box_event ?hg (N := 2) ?hd (cs := #[.slice A0_0 l0_0.length c0_0]) (t := 25) ?hr ?_; (case hd => rfl); (case hg => rfl); (case hr => first | (go_simp; done) | (go_simp; rfl)); intro gb219 hg w9 hbox hb; have n0_ := Aside0.mk (below_step (by repeat (first | (with_reducible first | exact HB.out | apply below_alloc | apply pw_below_drewN | apply below_drew1) | exact HB.out)) hb); have n1_ := Aside0.mk (hbox); have n2_ := Aside0.mk ((by rw [hg]; exact (below_size (by repeat (first | (with_reducible first | exact HB.out | apply below_alloc | apply pw_below_drewN | apply below_drew1) | exact HB.out))) : w.heap.size ≤ gb219)); have n3_ := Aside0.mk ((by rw [hg]; exact (below_size (by repeat (first | (with_reducible first | exact HB.out | apply below_alloc | apply pw_below_drewN | apply below_drew1) | exact HB.out))) : w.heap.size ≤ gb219)); clear HB; have HB := n0_; have BK219 := n1_; have GW219 := n2_; have GE219 := n3_; clear n0_ n1_ n2_ n3_; clear hb hbox hg; have hcz10_0 : w9.cell? ⟨gb219, 0, none⟩ = some (.slice A0_0 l0_0.length c0_0) := (blk_cell BK219.out 0).trans rfl; have hfz10_0 := blk_frozen BK219.out 0; have p220 : 0 ≤ (a1 : Int) := of_decide_eq_true (by first | (with_reducible assumption) | assumption); have q220 : a1 < (l0_0.length : Int) := of_decide_eq_true (by first | (with_reducible assumption) | assumption); obtain ⟨ad220, e220, hx220_0, hx220_1, hx220_2, hx220_3⟩ := at_T47 HR0_0.out a1 p220 q220; cases e220; replace hx220_0 := (HB.out.cell (World.block_lt_of_cell? w _ hx220_0)).trans hx220_0; replace hx220_1 := (HB.out.cell (World.block_lt_of_cell? w _ hx220_1)).trans hx220_1; replace hx220_2 := (HB.out.cell (World.block_lt_of_cell? w _ hx220_2)).trans hx220_2; replace hx220_3 := (HB.out.cell (World.block_lt_of_cell? w _ hx220_3)).trans hx220_3; replace p220 := eq_true p220; replace q220 := eq_true q220)); try go_wp2_with (first | ((with_reducible refine gate_dst (N := 2) rfl ?_); (try (refine gate_guard (by rfl) ?_; dsimp only)); refine box_event ?hg (N := 2) ?hd (cs := #[.slice A0_0 l0_0.length c0_0]) (t := 25) ?hr ?_; (case hd => rfl); (case hg => rfl); (case hr => first | (go_simp; done) | (go_simp; rfl)); intro gb219 hg w9 hbox hb; have n0_ := Aside0.mk (below_step (by repeat (first | (with_reducible first | exact HB.out | apply below_alloc | apply pw_below_drewN | apply below_drew1) | exact HB.out)) hb); have n1_ := Aside0.mk (hbox); have n2_ := Aside0.mk ((by rw [hg]; exact (below_size (by repeat (first | (with_reducible first | exact HB.out | apply below_alloc | apply pw_below_drewN | apply below_drew1) | exact HB.out))) : w.heap.size ≤ gb219)); have n3_ := Aside0.mk ((by rw [hg]; exact (below_size (by repeat (first | (with_reducible first | exact HB.out | apply below_alloc | apply pw_below_drewN | apply below_drew1) | exact HB.out))) : w.heap.size ≤ gb219)); clear HB; have HB := n0_; have BK219 := n1_; have GW219 := n2_; have GE219 := n3_; clear n0_ n1_ n2_ n3_; clear hb hbox hg; have hcz10_0 : w9.cell? ⟨gb219, 0, none⟩ = some (.slice A0_0 l0_0.length c0_0) := (blk_cell BK219.out 0).trans rfl; have hfz10_0 := blk_frozen BK219.out 0; have p220 : 0 ≤ (a1 : Int) := of_decide_eq_true (by first | (with_reducible assumption) | assumption); have q220 : a1 < (l0_0.length : Int) := of_decide_eq_true (by first | (with_reducible assumption) | assumption); obtain ⟨ad220, e220, hx220_0, hx220_1, hx220_2, hx220_3⟩ := at_T47 HR0_0.out a1 p220 q220; cases e220; replace hx220_0 := (HB.out.cell (World.block_lt_of_cell? w _ hx220_0)).trans hx220_0; replace hx220_1 := (HB.out.cell (World.block_lt_of_cell? w _ hx220_1)).trans hx220_1; replace hx220_2 := (HB.out.cell (World.block_lt_of_cell? w _ hx220_2)).trans hx220_2; replace hx220_3 := (HB.out.cell (World.block_lt_of_cell? w _ hx220_3)).trans hx220_3; replace p220 := eq_true p220; replace q220 := eq_true q220)))
          go_ret
          exact ⟨by first | rfl | (simp [errW_none, errW_some] <;> rfl) | (simp [*, errW_none, errW_some] <;> rfl), by repeat (first | (with_reducible first | exact HB.out | apply below_alloc | apply pw_below_drewN | apply below_drew1 | refine below_set ?_ GE219.out) | exact HB.out)⟩
      · rw [if_neg c5] at H
        exact absurd H (by simp)
    · rw [if_neg c4] at H
      have c4b0 : decide (a1 < (l0_0.length : Int)) = false := decide_eq_false c4
      clear c4
      obtain rfl := Option.some.inj H
      go_enter Try.func51, Try.ntmps51
      go_wp2_with (first | ((with_reducible refine gate_dst (N := 2) rfl ?_); (try (refine gate_guard (by rfl) ?_; dsimp only)); refine box_event ?hg (N := 2) ?hd (cs := #[.slice A0_0 l0_0.length c0_0]) (t := 25) ?hr ?_; (case hd => rfl); (case hg => rfl); (case hr => first | (go_simp; done) | (go_simp; rfl)); intro gb219 hg w11 hbox hb; have n0_ := Aside0.mk (below_step (by repeat (first | (with_reducible first | exact HB.out | apply below_alloc | apply pw_below_drewN | apply below_drew1) | exact HB.out)) hb); have n1_ := Aside0.mk (hbox); have n2_ := Aside0.mk ((by rw [hg]; exact (below_size (by repeat (first | (with_reducible first | exact HB.out | apply below_alloc | apply pw_below_drewN | apply below_drew1) | exact HB.out))) : w.heap.size ≤ gb219)); have n3_ := Aside0.mk ((by rw [hg]; exact (below_size (by repeat (first | (with_reducible first | exact HB.out | apply below_alloc | apply pw_below_drewN | apply below_drew1) | exact HB.out))) : w.heap.size ≤ gb219)); clear HB; have HB := n0_; have BK219 := n1_; have GW219 := n2_; have GE219 := n3_; clear n0_ n1_ n2_ n3_; clear hb hbox hg; have hcz12_0 : w11.cell? ⟨gb219, 0, none⟩ = some (.slice A0_0 l0_0.length c0_0) := (blk_cell BK219.out 0).trans rfl; have hfz12_0 := blk_frozen BK219.out 0))
      repeat (go_quiet (first | ((with_reducible refine gate_dst (N := 2) rfl ?_); (try (refine gate_guard (by rfl) ?_; dsimp only)); refine box_event ?hg (N := 2) ?hd (cs := #[.slice A0_0 l0_0.length c0_0]) (t := 25) ?hr ?_; (case hd => rfl); (case hg => rfl); (case hr => first | (go_simp; done) | (go_simp; rfl)); intro gb219 hg w11 hbox hb; have n0_ := Aside0.mk (below_step (by repeat (first | (with_reducible first | exact HB.out | apply below_alloc | apply pw_below_drewN | apply below_drew1) | exact HB.out)) hb); have n1_ := Aside0.mk (hbox); have n2_ := Aside0.mk ((by rw [hg]; exact (below_size (by repeat (first | (with_reducible first | exact HB.out | apply below_alloc | apply pw_below_drewN | apply below_drew1) | exact HB.out))) : w.heap.size ≤ gb219)); have n3_ := Aside0.mk ((by rw [hg]; exact (below_size (by repeat (first | (with_reducible first | exact HB.out | apply below_alloc | apply pw_below_drewN | apply below_drew1) | exact HB.out))) : w.heap.size ≤ gb219)); clear HB; have HB := n0_; have BK219 := n1_; have GW219 := n2_; have GE219 := n3_; clear n0_ n1_ n2_ n3_; clear hb hbox hg; have hcz12_0 : w11.cell? ⟨gb219, 0, none⟩ = some (.slice A0_0 l0_0.length c0_0) := (blk_cell BK219.out 0).trans rfl; have hfz12_0 := blk_frozen BK219.out 0)); try go_wp2_with (first | ((with_reducible refine gate_dst (N := 2) rfl ?_); (try (refine gate_guard (by rfl) ?_; dsimp only)); refine box_event ?hg (N := 2) ?hd (cs := #[.slice A0_0 l0_0.length c0_0]) (t := 25) ?hr ?_; (case hd => rfl); (case hg => rfl); (case hr => first | (go_simp; done) | (go_simp; rfl)); intro gb219 hg w11 hbox hb; have n0_ := Aside0.mk (below_step (by repeat (first | (with_reducible first | exact HB.out | apply below_alloc | apply pw_below_drewN | apply below_drew1) | exact HB.out)) hb); have n1_ := Aside0.mk (hbox); have n2_ := Aside0.mk ((by rw [hg]; exact (below_size (by repeat (first | (with_reducible first | exact HB.out | apply below_alloc | apply pw_below_drewN | apply below_drew1) | exact HB.out))) : w.heap.size ≤ gb219)); have n3_ := Aside0.mk ((by rw [hg]; exact (below_size (by repeat (first | (with_reducible first | exact HB.out | apply below_alloc | apply pw_below_drewN | apply below_drew1) | exact HB.out))) : w.heap.size ≤ gb219)); clear HB; have HB := n0_; have BK219 := n1_; have GW219 := n2_; have GE219 := n3_; clear n0_ n1_ n2_ n3_; clear hb hbox hg; have hcz12_0 : w11.cell? ⟨gb219, 0, none⟩ = some (.slice A0_0 l0_0.length c0_0) := (blk_cell BK219.out 0).trans rfl; have hfz12_0 := blk_frozen BK219.out 0)))
      go_ret
      exact ⟨by first | rfl | (simp [errW_none, errW_some] <;> rfl) | (simp [*, errW_none, errW_some] <;> rfl), by repeat (first | (with_reducible first | exact HB.out | apply below_alloc | apply pw_below_drewN | apply below_drew1 | refine below_set ?_ GE219.out) | exact HB.out)⟩
  · rw [if_neg c3] at H
    have c3b0 : decide (0 ≤ a1) = false := decide_eq_false c3
    clear c3
    obtain rfl := Option.some.inj H
    go_enter Try.func51, Try.ntmps51
    go_wp2_with (first | ((with_reducible refine gate_dst (N := 2) rfl ?_); (try (refine gate_guard (by rfl) ?_; dsimp only)); refine box_event ?hg (N := 2) ?hd (cs := #[.slice A0_0 l0_0.length c0_0]) (t := 25) ?hr ?_; (case hd => rfl); (case hg => rfl); (case hr => first | (go_simp; done) | (go_simp; rfl)); intro gb219 hg w13 hbox hb; have n0_ := Aside0.mk (below_step (by repeat (first | (with_reducible first | exact HB.out | apply below_alloc | apply pw_below_drewN | apply below_drew1) | exact HB.out)) hb); have n1_ := Aside0.mk (hbox); have n2_ := Aside0.mk ((by rw [hg]; exact (below_size (by repeat (first | (with_reducible first | exact HB.out | apply below_alloc | apply pw_below_drewN | apply below_drew1) | exact HB.out))) : w.heap.size ≤ gb219)); have n3_ := Aside0.mk ((by rw [hg]; exact (below_size (by repeat (first | (with_reducible first | exact HB.out | apply below_alloc | apply pw_below_drewN | apply below_drew1) | exact HB.out))) : w.heap.size ≤ gb219)); clear HB; have HB := n0_; have BK219 := n1_; have GW219 := n2_; have GE219 := n3_; clear n0_ n1_ n2_ n3_; clear hb hbox hg))
    repeat (go_quiet (first | ((with_reducible refine gate_dst (N := 2) rfl ?_); (try (refine gate_guard (by rfl) ?_; dsimp only)); refine box_event ?hg (N := 2) ?hd (cs := #[.slice A0_0 l0_0.length c0_0]) (t := 25) ?hr ?_; (case hd => rfl); (case hg => rfl); (case hr => first | (go_simp; done) | (go_simp; rfl)); intro gb219 hg w13 hbox hb; have n0_ := Aside0.mk (below_step (by repeat (first | (with_reducible first | exact HB.out | apply below_alloc | apply pw_below_drewN | apply below_drew1) | exact HB.out)) hb); have n1_ := Aside0.mk (hbox); have n2_ := Aside0.mk ((by rw [hg]; exact (below_size (by repeat (first | (with_reducible first | exact HB.out | apply below_alloc | apply pw_below_drewN | apply below_drew1) | exact HB.out))) : w.heap.size ≤ gb219)); have n3_ := Aside0.mk ((by rw [hg]; exact (below_size (by repeat (first | (with_reducible first | exact HB.out | apply below_alloc | apply pw_below_drewN | apply below_drew1) | exact HB.out))) : w.heap.size ≤ gb219)); clear HB; have HB := n0_; have BK219 := n1_; have GW219 := n2_; have GE219 := n3_; clear n0_ n1_ n2_ n3_; clear hb hbox hg)); try go_wp2_with (first | ((with_reducible refine gate_dst (N := 2) rfl ?_); (try (refine gate_guard (by rfl) ?_; dsimp only)); refine box_event ?hg (N := 2) ?hd (cs := #[.slice A0_0 l0_0.length c0_0]) (t := 25) ?hr ?_; (case hd => rfl); (case hg => rfl); (case hr => first | (go_simp; done) | (go_simp; rfl)); intro gb219 hg w13 hbox hb; have n0_ := Aside0.mk (below_step (by repeat (first | (with_reducible first | exact HB.out | apply below_alloc | apply pw_below_drewN | apply below_drew1) | exact HB.out)) hb); have n1_ := Aside0.mk (hbox); have n2_ := Aside0.mk ((by rw [hg]; exact (below_size (by repeat (first | (with_reducible first | exact HB.out | apply below_alloc | apply pw_below_drewN | apply below_drew1) | exact HB.out))) : w.heap.size ≤ gb219)); have n3_ := Aside0.mk ((by rw [hg]; exact (below_size (by repeat (first | (with_reducible first | exact HB.out | apply below_alloc | apply pw_below_drewN | apply below_drew1) | exact HB.out))) : w.heap.size ≤ gb219)); clear HB; have HB := n0_; have BK219 := n1_; have GW219 := n2_; have GE219 := n3_; clear n0_ n1_ n2_ n3_; clear hb hbox hg)))
    go_ret
    exact ⟨by first | rfl | (simp [errW_none, errW_some] <;> rfl) | (simp [*, errW_none, errW_some] <;> rfl), by repeat (first | (with_reducible first | exact HB.out | apply below_alloc | apply pw_below_drewN | apply below_drew1 | refine below_set ?_ GE219.out) | exact HB.out)⟩

end Go.Proofs.Ytodldpdnhcafpaa.F

namespace Go.Proofs.Ytodldpdnhcafpaa.K
open Go.RowKit Go.Proofs.YtodldpdnhcafpaaW.PrintWords Go.Proofs.YtodldpdnhcafpaaW.PrintLast Go.Proofs.YtodldpdnhcafpaaW.PrintMore
open Go.Proofs.Ytodldpdnhcafpaa.F
set_option linter.unusedVariables false
set_option linter.unusedSimpArgs false

/-- What tree.kids hands to its function, in order, and what it answers. -/
def kids.l0 : Nat → Int → List Int → Int → List S47 → Option (List Int × Bool)
  | 0, _, _, _, _ => none
  | k + 1, en, pre, x, l => if x < en then (if 0 ≤ x then (if x < (l.length : Int) then (if (rd_T47 l x).f3 < 1 then some (pre ++ [x], false) else (if (rd_T47 l x).f3 > wrap64 (en - x) then some (pre ++ [x], false) else kids.l0 k en (pre ++ [x]) (wrap64 (x + (rd_T47 l x).f3)) l)) else none) else none) else some (pre, true)
def kids.f (k : Nat) (l : List S47) (n : Int) : Option (List Int × Bool) := (tree_sized.f l n).bind fun s => if s = true then (if 0 ≤ n then (if n < (l.length : Int) then kids.l0 k (wrap64 (n + (rd_T47 l n).f3)) [] (wrap64 (n + 1)) l else none) else none) else some ([], false)

theorem kids.l0_prefix : ∀ (k : Nat) (en : Int) (pre : List Int) (x : Int) (l : List S47) (r : List Int × Bool), kids.l0 k en pre x l = some r → pre <+: r.1
  | 0, _, _, _, _, _, h => by simp [kids.l0] at h
  | k + 1, en, pre, x, l, r, h => by
    simp only [kids.l0] at h
    split at h
    · split at h
      · split at h
        · split at h
          · obtain rfl := Option.some.inj h; exact ⟨[x], rfl⟩
          · split at h
            · obtain rfl := Option.some.inj h; exact ⟨[x], rfl⟩
            · exact List.IsPrefix.trans ⟨[x], rfl⟩ (kids.l0_prefix k en (pre ++ [x]) _ l r h)
        · exact absurd h (by simp)
      · exact absurd h (by simp)
    · obtain rfl := Option.some.inj h; exact List.prefix_refl _
theorem heap_lt {w : World} {b : Nat} {o : Obj} (h : w.heap[b]? = some o) : b < w.heap.size := (Array.getElem?_eq_some_iff.1 h).1
set_option maxHeartbeats 8000000 in
set_option maxRecDepth 100000 in
theorem kids.calls (g : Nat) (lb : Array Value) (eg : ∀ args w, (callFunc g args).run Try.prog w = .ok (.enter g args) w) (J : Nat → List Int → World → Prop) (k : Nat) (A : Option Addr) (c : Nat) (l : List S47) (n : Int) (ks : List Int) (ok : Bool) (w0 w : World)
    (hr : Kd.C k47 w0 A l.length l) (hc : l.length ≤ c) (hw : Below w0.heap.size w0 w) (h : kids.f k l n = some (ks, ok))
    (h0 : ∀ gb, w.heap.size ≤ gb → J gb [] w)
    (hal : ∀ gb pre W W', J gb pre W → Below W.heap.size W W' → J gb pre W')
    (hY : ∀ gb pre x W, (pre ++ [x]) <+: ks → 0 ≤ x → x < (l.length : Int) → J gb pre W → w.heap.size ≤ gb → gb < W.heap.size → Below w0.heap.size w0 W →
      Calls Try.prog g (#[.int .i64 x] ++ lb) W fun e W' => (∃ v, e = .returned v) ∧ J gb (pre ++ [x]) W' ∧ W'.heap[gb]? = W.heap[gb]? ∧ Below w0.heap.size w0 W') :
    Calls Try.prog 55 #[.agg #[.slice A l.length c], .int .i64 n, .func (.func g) #[] lb] w fun e w' => e = .returned (.bool ok) ∧ (∃ gb, J gb ks w') ∧ Below w0.heap.size w0 w' := by
  have hu25 := Try.underlying25
  have HR := Aside0.mk hr
  have HC := Aside0.mk hc
  have HW := Aside0.mk hw
  have H0 := Aside0.mk h0
  have HAL := Aside0.mk hal
  have HY := Aside0.mk hY
  clear hr hc hw h0 hal hY
  obtain ⟨s, hs, h⟩ := Option.bind_eq_some_iff.1 h
  have HS := Aside0.mk hs
  have HC1 := Aside0.mk h
  clear hs h
  have HB := Aside0.mk (Below.refl w.heap.size w)
  cases s with
  | false =>
    have H := HC1.out
    simp only [Bool.false_eq_true, if_false, Option.some.injEq, Prod.mk.injEq] at H
    obtain ⟨rfl, rfl⟩ := H
    clear HC1
    go_enter Try.func55, Try.ntmps55
    go_wp2_with (first | ((with_reducible refine gate_dst (N := 3) rfl ?_); (try (refine gate_guard (by rfl) ?_; dsimp only)); refine box_event ?hg (N := 3) ?hd (cs := #[.slice A l.length c]) (t := 25) ?hr ?_; (case hd => rfl); (case hg => rfl); (case hr => first | (go_simp; done) | (go_simp; rfl)); intro gb hg w4 hbox hb; have n0_ := Aside0.mk (below_step (by repeat (first | (with_reducible first | exact HB.out | apply below_alloc | apply pw_below_drewN | apply below_drew1) | exact HB.out)) hb); have n1_ := Aside0.mk (hbox); have n2_ := Aside0.mk ((by rw [hg]; exact (below_size (by repeat (first | (with_reducible first | exact HB.out | apply below_alloc | apply pw_below_drewN | apply below_drew1) | exact HB.out))) : w.heap.size ≤ gb)); have n3_ := Aside0.mk ((by rw [hg]; exact (below_size (by repeat (first | (with_reducible first | exact HB.out | apply below_alloc | apply pw_below_drewN | apply below_drew1) | exact HB.out))) : w.heap.size ≤ gb)); clear HB; have HB := n0_; have BK := n1_; have GW := n2_; have GE := n3_; clear n0_ n1_ n2_ n3_; clear hb hbox hg; have hcz0 : w4.cell? ⟨gb, 0, none⟩ = some (.slice A l.length c) := (blk_cell BK.out 0).trans rfl; have hfz0 := blk_frozen BK.out 0) | (go_at_call 51; refine (tree_sized.calls A c l n false _ (Kd.C_below (Kd.C_below HR.out HW.out) HB.out) HC.out HS.out).mono ?_; rintro e w5 ⟨rfl, hb5⟩; clear hcz0 hfz0; have n1_ := Aside0.mk (blk_below BK.out hb5); have n2_ := Aside0.mk (below_step HB.out hb5); clear BK HB hb5; have BK := n1_; have HB := n2_; clear n1_ n2_; have hcz0 : w5.cell? ⟨gb, 0, none⟩ = some (.slice A l.length c) := (blk_cell BK.out 0).trans rfl; have hfz0 := blk_frozen BK.out 0))
    go_ret
    exact ⟨rfl, ⟨gb, HAL.out gb [] w _ (H0.out gb GW.out) HB.out⟩, HW.out.trans (HB.out.mono HW.out.size)⟩
  | true =>
    have H := HC1.out
    rw [if_pos rfl] at H
    clear HC1
    by_cases d1 : 0 ≤ n
    · rw [if_pos d1] at H
      by_cases d2 : n < (l.length : Int)
      · rw [if_pos d2] at H
        have H' := Aside0.mk H
        clear H
        have p2 : 0 ≤ (n : Int) := d1
        have q2 : n < (l.length : Int) := d2
        obtain ⟨ad, e2, hx0, hx1, hx2, hx3⟩ := at_T47 HR.out n p2 q2
        cases e2
        replace p2 := eq_true p2
        replace q2 := eq_true q2
        have b2 : decide (0 ≤ n) = true := decide_eq_true d1
        have b3 : decide (n < (l.length : Int)) = true := decide_eq_true d2
        clear d1 d2
        replace hx3 := Aside0.mk hx3
        clear hx0 hx1 hx2
        go_enter Try.func55, Try.ntmps55
        go_wp2_with (first | ((with_reducible refine gate_dst (N := 3) rfl ?_); (try (refine gate_guard (by rfl) ?_; dsimp only)); refine box_event ?hg (N := 3) ?hd (cs := #[.slice (some ad) l.length c]) (t := 25) ?hr ?_; (case hd => rfl); (case hg => rfl); (case hr => first | (go_simp; done) | (go_simp; rfl)); intro gb hg w4 hbox hb; have n0_ := Aside0.mk (below_step (by repeat (first | (with_reducible first | exact HB.out | apply below_alloc | apply pw_below_drewN | apply below_drew1) | exact HB.out)) hb); have n1_ := Aside0.mk (hbox); have n2_ := Aside0.mk ((by rw [hg]; exact (below_size (by repeat (first | (with_reducible first | exact HB.out | apply below_alloc | apply pw_below_drewN | apply below_drew1) | exact HB.out))) : w.heap.size ≤ gb)); have n3_ := Aside0.mk ((by rw [hg]; exact (below_size (by repeat (first | (with_reducible first | exact HB.out | apply below_alloc | apply pw_below_drewN | apply below_drew1) | exact HB.out))) : w.heap.size ≤ gb)); clear HB; have HB := n0_; have BK := n1_; have GW := n2_; have GE := n3_; clear n0_ n1_ n2_ n3_; clear hb hbox hg; have hcz0 : w4.cell? ⟨gb, 0, none⟩ = some (.slice (some ad) l.length c) := (blk_cell BK.out 0).trans rfl; have hfz0 := blk_frozen BK.out 0) | (go_at_call 51; refine (tree_sized.calls (some ad) c l n true _ (Kd.C_below (Kd.C_below HR.out HW.out) HB.out) HC.out HS.out).mono ?_; rintro e w5 ⟨rfl, hb5⟩; clear hcz0 hfz0; have n1_ := Aside0.mk (blk_below BK.out hb5); have n2_ := Aside0.mk (below_step HB.out hb5); clear BK HB hb5; have BK := n1_; have HB := n2_; clear n1_ n2_; have hcz0 : w5.cell? ⟨gb, 0, none⟩ = some (.slice (some ad) l.length c) := (blk_cell BK.out 0).trans rfl; have hfz0 := blk_frozen BK.out 0; have hx := ((HW.out.trans (HB.out.mono HW.out.size)).cell (World.block_lt_of_cell? w0 _ hx3.out)).trans hx3.out))
        go_loopg [8] k (fun kq v8 w' => ∃ (pre : List Int) (x8 : Int), v8 = .int .i64 x8 ∧ Aside0 (kids.l0 kq (wrap64 (n + (rd_T47 l n).f3)) pre x8 l = some (ks, ok)) ∧ Aside0 (kq ≤ k) ∧ Aside0 (J gb pre w') ∧ Aside0 (w'.heap[gb]? = some (.cells #[.slice (some ad) l.length c] 25 (0, 0))) ∧ Aside0 (Below w0.heap.size w0 w'))
        case atStart => exact ⟨[], wrap64 (n + 1), by first | rfl | simp, H', ⟨Nat.le_refl _⟩, ⟨HAL.out gb [] w _ (H0.out gb GW.out) HB.out⟩, BK, ⟨HW.out.trans (HB.out.mono HW.out.size)⟩⟩
        case round =>
          clear hx hcz0 hfz0 BK H' p2 q2 b2 b3
          obtain ⟨pre, x8, rfl, HA, HK3, HJ, BK, HD⟩ := hrel
          have hcz0 : wr.cell? ⟨gb, 0, none⟩ = some (.slice (some ad) l.length c) := (blk_cell BK.out 0).trans rfl
          have hfz0 := blk_frozen BK.out 0
          cases gk with
          | zero => exact absurd HA.out (by simp [kids.l0])
          | succ k3 =>
            have H := HA.out
            clear HA
            simp only [kids.l0] at H
            by_cases c1 : x8 < wrap64 (n + (rd_T47 l n).f3)
            · rw [if_pos c1] at H
              have c1b : decide (x8 < wrap64 (n + (rd_T47 l n).f3)) = true := decide_eq_true c1
              clear c1
              by_cases c2 : 0 ≤ x8
              · rw [if_pos c2] at H
                by_cases c3 : x8 < (l.length : Int)
                · rw [if_pos c3] at H
                  obtain ⟨ad', e2, hy0, hy1, hy2, hy3⟩ := at_T47 HR.out x8 c2 c3
                  cases e2
                  have hx8 := Aside0.mk hy3
                  clear hy0 hy1 hy2 hy3
                  have c2b : decide (0 ≤ x8) = true := decide_eq_true c2
                  have c3b : decide (x8 < (l.length : Int)) = true := decide_eq_true c3
                  replace c2 := eq_true c2
                  replace c3 := eq_true c3
                  by_cases c4 : (rd_T47 l x8).f3 < 1
                  · rw [if_pos c4] at H
                    have c4b : decide ((rd_T47 l x8).f3 < 1) = true := decide_eq_true c4
                    clear c4
                    simp only [Option.some.injEq, Prod.mk.injEq] at H
                    obtain ⟨rfl, rfl⟩ := H
                    go_wp2_with fail
                    refine (HY.out gb pre x8 _ (List.prefix_refl _) (of_decide_eq_true c2b) (of_decide_eq_true c3b) HJ.out GW.out (heap_lt BK.out) HD.out).mono ?_
                    rintro e w6 ⟨⟨v, rfl⟩, hj, hbk, hd⟩
                    have n1_ := Aside0.mk hj
                    have n2_ := Aside0.mk (hbk.trans BK.out)
                    have n3_ := Aside0.mk hd
                    clear hcz0 hfz0 HJ BK HD hj hbk hd
                    have HJ := n1_
                    have BK := n2_
                    have HD := n3_
                    clear n1_ n2_ n3_
                    have hcz0 : w6.cell? ⟨gb, 0, none⟩ = some (.slice (some ad) l.length c) := (blk_cell BK.out 0).trans rfl
                    have hfz0 := blk_frozen BK.out 0
                    have hx := (HD.out.cell (World.block_lt_of_cell? w0 _ hx8.out)).trans hx8.out
                    go_wp2
                    go_ret
                    exact ⟨rfl, ⟨gb, HAL.out gb _ _ _ HJ.out (by repeat (first | exact Below.refl _ _ | apply below_drew1 | apply pw_below_drewN | apply below_alloc))⟩, by repeat (first | exact HD.out | apply below_drew1 | apply pw_below_drewN | apply below_alloc)⟩
                  · rw [if_neg c4] at H
                    have c4b : decide ((rd_T47 l x8).f3 < 1) = false := decide_eq_false c4
                    clear c4
                    by_cases c5 : (rd_T47 l x8).f3 > wrap64 (wrap64 (n + (rd_T47 l n).f3) - x8)
                    · rw [if_pos c5] at H
                      have c5b : decide (wrap64 (wrap64 (n + (rd_T47 l n).f3) - x8) < (rd_T47 l x8).f3) = true := decide_eq_true c5
                      clear c5
                      simp only [Option.some.injEq, Prod.mk.injEq] at H
                      obtain ⟨rfl, rfl⟩ := H
                      go_wp2_with fail
                      refine (HY.out gb pre x8 _ (List.prefix_refl _) (of_decide_eq_true c2b) (of_decide_eq_true c3b) HJ.out GW.out (heap_lt BK.out) HD.out).mono ?_
                      rintro e w6 ⟨⟨v, rfl⟩, hj, hbk, hd⟩
                      have n1_ := Aside0.mk hj
                      have n2_ := Aside0.mk (hbk.trans BK.out)
                      have n3_ := Aside0.mk hd
                      clear hcz0 hfz0 HJ BK HD hj hbk hd
                      have HJ := n1_
                      have BK := n2_
                      have HD := n3_
                      clear n1_ n2_ n3_
                      have hcz0 : w6.cell? ⟨gb, 0, none⟩ = some (.slice (some ad) l.length c) := (blk_cell BK.out 0).trans rfl
                      have hfz0 := blk_frozen BK.out 0
                      have hx := (HD.out.cell (World.block_lt_of_cell? w0 _ hx8.out)).trans hx8.out
                      go_wp2
                      go_ret
                      exact ⟨rfl, ⟨gb, HAL.out gb _ _ _ HJ.out (by repeat (first | exact Below.refl _ _ | apply below_drew1 | apply pw_below_drewN | apply below_alloc))⟩, by repeat (first | exact HD.out | apply below_drew1 | apply pw_below_drewN | apply below_alloc)⟩
                    · rw [if_neg c5] at H
                      have c5b : decide (wrap64 (wrap64 (n + (rd_T47 l n).f3) - x8) < (rd_T47 l x8).f3) = false := decide_eq_false c5
                      clear c5
                      have H' := Aside0.mk H
                      clear H
                      go_wp2_with fail
                      refine (HY.out gb pre x8 _ (kids.l0_prefix _ _ _ _ _ _ H'.out) (of_decide_eq_true c2b) (of_decide_eq_true c3b) HJ.out GW.out (heap_lt BK.out) HD.out).mono ?_
                      rintro e w6 ⟨⟨v, rfl⟩, hj, hbk, hd⟩
                      have n1_ := Aside0.mk hj
                      have n2_ := Aside0.mk (hbk.trans BK.out)
                      have n3_ := Aside0.mk hd
                      clear hcz0 hfz0 HJ BK HD hj hbk hd
                      have HJ := n1_
                      have BK := n2_
                      have HD := n3_
                      clear n1_ n2_ n3_
                      have hcz0 : w6.cell? ⟨gb, 0, none⟩ = some (.slice (some ad) l.length c) := (blk_cell BK.out 0).trans rfl
                      have hfz0 := blk_frozen BK.out 0
                      have hx := (HD.out.cell (World.block_lt_of_cell? w0 _ hx8.out)).trans hx8.out
                      go_wp2
                      go_roundg k3
                      case measure => have := HK3.out; omega
                      case rel => exact ⟨pre ++ [x8], wrap64 (x8 + (rd_T47 l x8).f3), by first | rfl | simp, H', ⟨by have := HK3.out; omega⟩, ⟨HAL.out gb _ _ _ HJ.out (by repeat (first | exact Below.refl _ _ | apply below_drew1 | apply pw_below_drewN | apply below_alloc))⟩, BK, ⟨by repeat (first | exact HD.out | apply below_drew1 | apply pw_below_drewN | apply below_alloc)⟩⟩
                · rw [if_neg c3] at H
                  exact absurd H (by simp)
              · rw [if_neg c2] at H
                exact absurd H (by simp)
            · rw [if_neg c1] at H
              have c1b : decide (x8 < wrap64 (n + (rd_T47 l n).f3)) = false := decide_eq_false c1
              clear c1
              simp only [Option.some.injEq, Prod.mk.injEq] at H
              obtain ⟨rfl, rfl⟩ := H
              go_wp2
              go_ret
              exact ⟨rfl, ⟨gb, HAL.out gb _ _ _ HJ.out (by repeat (first | exact Below.refl _ _ | apply below_drew1 | apply pw_below_drewN | apply below_alloc))⟩, by repeat (first | exact HD.out | apply below_drew1 | apply pw_below_drewN | apply below_alloc)⟩
      · rw [if_neg d2] at H
        exact absurd H (by simp)
    · rw [if_neg d1] at H
      exact absurd H (by simp)
end Go.Proofs.Ytodldpdnhcafpaa.K

namespace Go.Proofs.Ytodldpdnhcafpaa.K
open Go.RowKit Go.Proofs.YtodldpdnhcafpaaW.PrintWords Go.Proofs.YtodldpdnhcafpaaW.PrintLast Go.Proofs.YtodldpdnhcafpaaW.PrintMore
open Go.Proofs.Ytodldpdnhcafpaa.F
set_option linter.unusedVariables false
set_option linter.unusedSimpArgs false

theorem info3' : (Try.prog.info? 3).map (fun i => (i.zero, i.size, i.bytes)) = some (some (.int .i64 0), 1, 8) := by kernel_rfl

set_option maxHeartbeats 1000000 in
/-- 'out = append(out, k)', out a captured variable. -/
theorem kids1.calls (x : Int) (b gb : Nat) (v : Value) (xs : List Int) (w0 w : World) (hb : w.heap[b]? = some (.cells #[v] 33 (0, 0))) (hv : (Kd.int .i64).R 3 w w0.heap.size (fun k => k ≠ gb ∧ k ≠ b) v xs)
    (hl : xs.length < 17592186044415) (hW : Below w0.heap.size w0 w) (hbb : w0.heap.size ≤ b) (hne : gb ≠ b) (hgb : gb < w.heap.size) :
    Calls Try.prog 57 #[.int .i64 x, .pointer (some ⟨b, 0, none⟩)] w fun e w' => (∃ v, e = .returned v) ∧ (∃ v', w'.heap[b]? = some (.cells #[v'] 33 (0, 0)) ∧ (Kd.int .i64).R 3 w' w0.heap.size (fun k => k ≠ gb ∧ k ≠ b) v' (xs ++ [x])) ∧ w'.heap[gb]? = w.heap[gb]? ∧ Below w0.heap.size w0 w' := by
  have hu33 := Try.underlying33
  have hbl := blk_lt hb
  obtain ⟨A, c, rfl⟩ := Kd.R_slice hv
  have hc0 : w.cell? ⟨b, 0, none⟩ = some (.slice A xs.length c) := (blk_cell hb 0).trans rfl
  have hf0 := blk_frozen hb 0
  have HV := Aside0.mk hv
  have HB := Aside0.mk hb
  have HW := Aside0.mk hW
  have HL := Aside0.mk hl
  have HBB := Aside0.mk hbb
  have HNE := Aside0.mk hne
  have HGB := Aside0.mk hgb
  have HBL := Aside0.mk hbl
  clear hv hb hW hl hbb hne hgb hbl
  go_enter Try.func57, Try.ntmps57
  go_wp2_with (first
    | (at_builtin; refine Kd.R_append (Kd.int .i64) (w0 := w0) w0.heap.size rfl (.tmp 3) (.tmp 5) 33 3 (.int .i64 0) 8 rfl Try.underlying33 info3' rfl (by decide) (by omega) (.slice A xs.length c) xs x [.int .i64 x] (fun k => k ≠ gb ∧ k ≠ b) (fun _ => False) rfl rfl ?aP (fun _ hk => hk.elim) ?aF ?aO ?aB ?aS ?aL ?_; (case aP => exact rfl); (case aF => exact (fun k hk => ⟨by have := HGB.out; omega, by have := HBL.out; omega⟩)); (case aO => exact HV.out); (case aB => exact HW.out); (case aS => exact HW.out.size); (case aL => have := HL.out; omega); intro v1 w1 ho hb1 hg hat; have n0_ := Aside0.mk (blk_grown HB.out hg (fun e => (HV.out.1 _ e.symm).2 rfl)); have n1_ := Aside0.mk (hg.block gb HGB.out (fun e => (HV.out.1 _ e.symm).1 rfl)); have n2_ := Aside0.mk ho; have n3_ := Aside0.mk hb1; clear HB HW hc0 hf0 ho hb1 hg hat HV; have HB := n0_; have HG := n1_; have HO := n2_; have HW := n3_; clear n0_ n1_ n2_ n3_; have hc0 : w1.cell? ⟨b, 0, none⟩ = some (.slice A xs.length c) := (blk_cell HB.out 0).trans rfl; have hf0 := blk_frozen HB.out 0; obtain ⟨A1, c1, e1⟩ := Kd.R_slice HO.out; subst e1))
  first | go_end0 | ((try simp only [Exit.inBlock, Exit.then]); refine bodyPost_ret (results_none rfl _ _ _) rfl ?_)
  refine ⟨⟨_, rfl⟩, ⟨_, blk_put HB.out 0 _ rfl, ?_⟩, ?_, ?_⟩
  · have e := Kd.R_far (p := ⟨b, 0, none⟩) HO.out (fun k hk => hk.2) (.slice A1 (xs ++ [x]).length c1)
    simpa only [List.length_append, List.length_singleton] using e
  · exact (Below.heap_setCell _ _ _ _ HNE.out).trans HG.out
  · exact below_set HW.out HBB.out

end Go.Proofs.Ytodldpdnhcafpaa.K

-- Plain walks of regions serve in a round of a loop over an iterator (the wide fence): operation for operation.
namespace Go.Proofs.Ytodldpdnhcafpaa.K
open Go.RowKit Go.Proofs.YtodldpdnhcafpaaW.PrintWords Go.Proofs.YtodldpdnhcafpaaW.PrintLast Go.Proofs.YtodldpdnhcafpaaW.PrintMore

def noDefer (o : Oper) : Bool := match o.op with | .defer _ => false | _ => true

section
variable {P : Program} {ops : Array Oper} {Q : Exit → Act → World → Prop} {n lp : Nat}

theorem rows_bridge {row : String} {args : Array Value} {w : World} {R : Value → World → Prop} (h : Rows P row args w R) : RowsIn (Fence.wide.inRound lp) n P row args w R :=
  fun c cs _ => let ⟨v, w', r, s⟩ := h c cs; ⟨v, w', r, by rw [fenced_inRound]; exact stepsIn_wide.2 s⟩

/-- No way out by growing. -/
def noOut (Q : Exit → Act → World → Prop) : Exit → Act → World → Prop
  | .outgrown, _, _ => False
  | e, a, w => Q e a w
theorem noOut_normal {a : Act} {w : World} : noOut Q .normal a w = Q .normal a w := rfl
theorem noOut_lets : ¬ LetsOut (noOut Q) := fun ⟨_, _, h⟩ => h

theorem oper_bridge {o : Oper} (hd : noDefer o = true) {a : Act} {w : World} {K : Act → World → Prop} (h : o.wp P a w K (noOut Q)) : o.wpIn (Fence.wide.inRound lp) n P a w K Q := by
  refine ⟨fun _ _ => trivial, ?_⟩
  have he : o.semAt (Fence.wide.inRound lp).round a.eval = execOp a.eval o :=
    Oper.semAt_some lp a.eval o (by intro c hc; simp [noDefer, hc] at hd)
  rw [he]
  unfold Oper.wp at h
  have hdep : (Fence.wide.inRound lp).depth.isSome = true → 1 ≤ n := fun h => by simp [Fence.wide] at h
  generalize (execOp a.eval o).run P w = r at *
  cases r with
  | ok x w' =>
    cases x <;> simp only [Oper.upon, Oper.uponIn] at h ⊢ <;>
      first
        | exact h
        | exact ⟨hdep, CallsIn.inRound _ (callsIn_wide.2 (Calls.mono h (fun e w' he => by cases e <;> first | exact he | exact absurd he noOut_lets)))⟩
        | exact ⟨hdep, rows_bridge h⟩
  | halt x w' => cases x <;> simp only [Oper.upon, Oper.uponIn] at h ⊢ <;> exact h

theorem list_bridge : ∀ (l : List Oper), l.all noDefer = true → ∀ a w, wpList P ops (noOut Q) l a w → wpListIn (Fence.wide.inRound lp) n P ops Q l a w
  | [], _, _, _, h => h
  | o :: rest, hd, a, w, h => by
    simp only [List.all_cons, Bool.and_eq_true] at hd
    unfold wpList at h
    unfold wpListIn
    split at h
    · rename_i hw
      rw [if_pos hw]
      rcases h with h | h
      · exact oper_bridge hd.1 (Oper.wp_mono (fun a w => list_bridge rest hd.2 a w) h)
      · exact absurd h.2 noOut_lets
    · rename_i hw
      rw [if_neg hw]
      exact ⟨fun _ _ => trivial, list_bridge rest hd.2 _ _ h⟩

end

/-- What lies in blocks of cells abides the turn of a block that is none. -/
theorem R_own {α : Type} {d : Kd α} {e : Nat} {A B : World} {base : Nat} {ok : Nat → Prop} {v : Value} {xs : List α} {row : Option Nat} (h : d.R e A base ok v xs) (hg : A.grownBy B row)
    (hr : ∀ r, row = some r → ∃ o : Obj, A.heap[r]? = some o ∧ o.isCells = false) : d.R e B base ok v xs :=
  Kd.R_mono (Kd.R_step (Kd.R_bound h) (fun k ⟨_, _, hlt, q, _, cells, hk⟩ hlt' => hg.block k hlt' (fun e' => by
    obtain ⟨_, ho, hc⟩ := hr k e'.symm
    rw [hk] at ho
    cases ho
    cases hc))) (fun _ hk => hk.1)
theorem blk_own {A B : World} {row : Option Nat} {b t : Nat} {cs : Array Value} {d : Nat × Nat} (h : A.heap[b]? = some (.cells cs t d)) (hg : A.grownBy B row)
    (hr : ∀ r, row = some r → ∃ o : Obj, A.heap[r]? = some o ∧ o.isCells = false) : B.heap[b]? = some (.cells cs t d) :=
  (hg.block b (Array.getElem?_eq_some_iff.1 h).1 (fun e' => by
    obtain ⟨_, ho, hc⟩ := hr b e'.symm
    rw [h] at ho
    cases ho
    cases hc)).trans h
/-- The law of a loop over an iterator of one variable, at the wide fence, between plain walks. -/
theorem rf1 {P : Program} {α : Type} {g : Operand} {p s : Tmp} {assign body : Code} {Q : Exit → Act → World → Prop} {a : Act} {w : World} {gf : Nat} {lb : Array Value}
    (hg : a.eval g = .func (.func gf) #[] lb) (eg : ∀ args w, (callFunc gf args).run P w = .ok (.enter gf args) w)
    {enc : α → Value} {Kp : World → World → Prop} {S Sp : List α → Prop} {N : Nat} (hseq : SeqStopsK Fence.wide 2 P gf lb (fun x => #[enc x]) Kp S Sp N w)
    (hKt : ∀ {A B C : World}, Kp A B → Kp B C → Kp A C) (hKb : ∀ (W : World) (l : Nat) (o o' : Obj), w.heap.size ≤ l → W.heap[l]? = some o → o.isCells = false → o.isWalk = false → Kp W (W.putObj l o'))
    (I : List α → World → Prop) (Ix : Code → List α → World → Prop) (hI : OwnFrom w.heap.size I) (hIx : ∀ c, OwnFrom w.heap.size (Ix c)) (h0 : I [] w)
    (hassign : ∀ (l : Nat) (x : α) (W : World) (K : Act → World → Prop), K { tmps := (a.tmps.setIfInBounds p (enc x)).setIfInBounds s (enc x), defers := [] } W →
      assign.wpIn (Fence.wide.inRound l) 1 P (Exit.then K (fun _ _ _ => False)) { tmps := a.tmps.setIfInBounds p (enc x), defers := [] } W)
    (hbody : ∀ (l : Nat) (pre : List α) (x : α) (W : World), I pre W → pre.length < N → body.wpIn (Fence.wide.inRound l) 1 P (ownPostG w.heap.size Kp I Ix (pre ++ [x]) W) { tmps := (a.tmps.setIfInBounds p (enc x)).setIfInBounds s (enc x), defers := [] } W)
    (hdone : ∀ (D : Nat) (xs : List α) (W : World), w.heap.size ≤ D → S xs → I xs W → W.heap[D]? = some (.deferred (some [])) → Q .normal { a with defers := { target := .collected D, args := #[] } :: a.defers } W)
    (hstop : ∀ (D : Nat) (c : Code) (pre : List α) (W : World), w.heap.size ≤ D → Sp pre → Ix c pre W → W.heap[D]? = some (.deferred (some [])) → c.wp P Q { a with defers := { target := .collected D, args := #[] } :: a.defers } W) :
    (Code.rangeFunc g #[p] assign body).wp P Q a w :=
  (wpIn_wide (n := 3)).1 (wpIn_rangeFunc_ownG (F := Fence.wide) (n := 3) rfl (by omega) hg trivial eg hseq (fun h k => hKt h k) hKb (Below.refl _ _) (fun _ => rfl) I Ix hI hIx h0 _ (fun l x W K hK => by simpa using hassign l x W K hK) hbody hdone
    (fun D c pre W a b c' d => wpIn_wide.2 (hstop D c pre W a b c' d)))

/-- All that lay lies as it lay, but for one box. -/
def KeepB (W0 : World) (g : Nat) (W : World) : Prop := W0.heap.size ≤ W.heap.size ∧ ∀ k, k < W0.heap.size → k ≠ g → W.heap[k]? = W0.heap[k]?
theorem KeepB.refl (W0 : World) (g : Nat) : KeepB W0 g W0 := ⟨Nat.le_refl _, fun _ _ _ => rfl⟩
theorem KeepB.blk {W0 W : World} {g b : Nat} {o : Obj} (h : KeepB W0 g W) (hb : W0.heap[b]? = some o) (hne : b ≠ g) : W.heap[b]? = some o := (h.2 b (blk_lt hb) hne).trans hb
theorem KeepB.R {α : Type} {d : Kd α} {e base g : Nat} {v : Value} {xs : List α} {W0 W : World} (h : KeepB W0 g W) (hR : d.R e W0 base (fun k => k ≠ g) v xs) : d.R e W base (fun k => k ≠ g) v xs :=
  Kd.R_step hR (fun k hk hlt => h.2 k hlt hk)
theorem KeepB.trans {W0 W W' : World} {g : Nat} (h : KeepB W0 g W) (h' : W.heap.size ≤ W'.heap.size) (hk : ∀ k, k < W0.heap.size → k ≠ g → W'.heap[k]? = W.heap[k]?) : KeepB W0 g W' :=
  ⟨Nat.le_trans h.1 h', fun k h1 h2 => (hk k h1 h2).trans (h.2 k h1 h2)⟩
theorem keepB_own {s : Type} (W0 : World) (g : Nat) : OwnFrom W0.heap.size (fun (_ : s) W => KeepB W0 g W) :=
  fun _ A B row h hg hr => h.trans hg.size (fun k hk _ => hg.block k (Nat.lt_of_lt_of_le hk h.1) (fun e => by have := (hr k e.symm).1; omega))
/-- A box that holds a row which has grown since. -/
def BoxR {α : Type} (d : Kd α) (t e : Nat) (g base b0 : Nat) (xs : List α) (W : World) : Prop := ∃ v, W.heap[g]? = some (.cells #[v] t (0, 0)) ∧ d.R e W base (fun k => b0 ≤ k) v xs
theorem boxR_own {α s : Type} {d : Kd α} {t e g base b0 B : Nat} (f : s → List α) : OwnFrom B (fun x W => BoxR d t e g base b0 (f x) W) :=
  fun _ _ _ _ ⟨v, hb, hR⟩ hg hr => ⟨v, blk_own hb hg (fun r e => (hr r e).2), R_own hR hg (fun r e => (hr r e).2)⟩
end Go.Proofs.Ytodldpdnhcafpaa.K

-- tokens (53, 62): the iterator's contract
namespace Go.Proofs.Ytodldpdnhcafpaa.K
open Go.RowKit Go.Shelf Go.Proofs.YtodldpdnhcafpaaW.PrintWords Go.Proofs.YtodldpdnhcafpaaW.PrintLast Go.Proofs.YtodldpdnhcafpaaW.PrintMore
open Go.Proofs.Ytodldpdnhcafpaa.F
attribute [local go_sem] Oper.semAt_some max2_int min2_int max_two min_two
set_option linter.unusedVariables false
set_option linter.unusedSimpArgs false

/-- No blanks, no note. -/
def tokB (l : List S61) (i : Int) : Bool := !decide ((rd_T61 l i).f0 = 0) && !decide ((rd_T61 l i).f0 = 1)
/-- The tokens from a up to b. -/
def tokR (l : List S61) (a b : Int) : List Int := ((List.range (b - a).toNat).map (fun j : Nat => a + (j : Int))).filter (tokB l)
theorem tokR_nil (l : List S61) {a b : Int} (h : b ≤ a) : tokR l a b = [] := by
  have e : (b - a).toNat = 0 := by omega
  unfold tokR
  rw [e]
  rfl
theorem tokR_succ (l : List S61) {a b : Int} (h : a ≤ b) : tokR l a (b + 1) = tokR l a b ++ (if tokB l b = true then [b] else []) := by
  have e : (b + 1 - a).toNat = (b - a).toNat + 1 := by omega
  have e2 : a + (((b - a).toNat : Nat) : Int) = b := by omega
  unfold tokR
  rw [e, List.range_succ, List.map_append, List.filter_append, List.map_singleton, e2, List.filter_cons, List.filter_nil]
theorem tokR_len (l : List S61) (a b : Int) : (tokR l a b).length ≤ (b - a).toNat := by
  unfold tokR
  refine Nat.le_trans (List.length_filter_le _ _) ?_
  simp
theorem tokR_prefix (l : List S61) {a b b' : Int} (h : b ≤ b') : tokR l a b <+: tokR l a b' := by
  unfold tokR
  refine List.IsPrefix.filter _ (List.IsPrefix.map _ ?_)
  have e : (b' - a).toNat = (b - a).toNat + ((b' - a).toNat - (b - a).toNat) := by omega
  rw [e, List.range_add]
  exact List.prefix_append _ _
/-- A token's number. -/
abbrev Tk (l : List S61) := { x : Int // 0 ≤ x ∧ x < (l.length : Int) ∧ tokB l x = true }

def valsT {l : List S61} (xs : List (Tk l)) : List Int := xs.map (·.1)
/-- What a round keeps: what lay ahead of the call, the two boxes. -/
def KpT (n₀ b1 b2 : Nat) (W W' : World) : Prop := Below n₀ W W' ∧ W'.heap[b1]? = W.heap[b1]? ∧ W'.heap[b2]? = W.heap[b2]?
theorem KpT.trans {n₀ b1 b2 : Nat} {A B C : World} (h : KpT n₀ b1 b2 A B) (k : KpT n₀ b1 b2 B C) : KpT n₀ b1 b2 A C := ⟨h.1.trans k.1, k.2.1.trans h.2.1, k.2.2.trans h.2.2⟩
theorem KpT.refl (n₀ b1 b2 : Nat) (A : World) : KpT n₀ b1 b2 A A := ⟨Below.refl _ _, rfl, rfl⟩

theorem KpT_b {n₀ B b1 b2 : Nat} (hn : n₀ ≤ B) (h1 : b1 < B) (h2 : b2 < B) (W : World) (l : Nat) (o o' : Obj) (hl : B ≤ l) (ho : W.heap[l]? = some o) (hc : o.isCells = false) (hw : o.isWalk = false) : KpT n₀ b1 b2 W (W.putObj l o') :=
  ⟨(Below.refl n₀ W).grown (grownBy_putObj' W l o') (by have := (Array.getElem?_eq_some_iff.1 ho).1; omega) (fun k e => by cases e; omega), World.putObj_heap_other (by omega), World.putObj_heap_other (by omega)⟩

set_option maxRecDepth 100000 in
set_option maxHeartbeats 2000000 in
theorem tokens1_in (n : Nat) (hn : 1 ≤ n) (lp b1 b2 : Nat) (w0 : World) (A : Option Addr) (c : Nat) (l : List S61) (x0 x1 x2 x3 : Int) (hl : l.length < 4611686018427387904) (hc : Kd.C k61 w0 A l.length l) (J Jx : List (Tk l) → World → Prop)
    (hY : ∀ pre (x : Tk l) W, J pre W → pre.length < l.length → YieldAt Fence.wide (n - 1) Try.prog lp #[.int .i64 x.1] W fun e W' =>
      (e = .returned (.bool true) ∧ J (pre ++ [x]) W' ∧ KpT w0.heap.size b1 b2 W W') ∨ (e = .returned (.bool false) ∧ Jx (pre ++ [x]) W'))
    (W : World) (hW : Below w0.heap.size w0 W) (h1 : W.heap[b1]? = some (.cells #[.int .u8 x0, .int .i64 x1, .int .i64 x2, .int .i64 x3] 47 (0, 0))) (h2 : W.heap[b2]? = some (.cells #[.slice A l.length c] 22 (0, 0))) (h0 : J [] W) :
    CallsIn Fence.wide n Try.prog 62 #[.func (.yield lp) #[] #[], .pointer (some ⟨b1, 0, none⟩), .pointer (some ⟨b2, 0, none⟩)] W fun e W' => (∃ v, e = .returned v) ∧
      ((∃ ys : List (Tk l), valsT ys = tokR l (mx x1 0) (mn x2 (l.length : Int)) ∧ J ys W') ∨ (∃ pre : List (Tk l), valsT pre <+: tokR l (mx x1 0) (mn x2 (l.length : Int)) ∧ Jx pre W')) := by
  have hu22 := Try.underlying22
  have hu47 := Try.underlying47
  have hu61 := Try.underlying61
  have hlo : 0 ≤ mx x1 0 := by unfold mx; split <;> omega
  have hhi : mn x2 (l.length : Int) ≤ (l.length : Int) := by unfold mn; split <;> omega
  obtain ⟨lo, elo⟩ : ∃ lo, mx x1 0 = lo := ⟨_, rfl⟩
  obtain ⟨hi, ehi⟩ : ∃ hi, mn x2 (l.length : Int) = hi := ⟨_, rfl⟩
  rw [elo] at hlo ⊢
  rw [ehi] at hhi ⊢
  have elo' : (if x1 < 0 then 0 else x1) = lo := elo
  have hcx : W.cell? ⟨b1, 1, none⟩ = some (.int .i64 x1) := (blk_cell h1 1).trans rfl
  have hcx2 : W.cell? ⟨b1, 2, none⟩ = some (.int .i64 x2) := (blk_cell h1 2).trans rfl
  have hcl : W.cell? ⟨b2, 0, none⟩ = some (.slice A l.length c) := (blk_cell h2 0).trans rfl
  refine callsIn_of_wp Try.func62 rfl trivial ?_ rfl
  simp only [Try.ntmps62, List.size_toArray, List.length_cons, List.length_nil, Nat.reduceAdd, Nat.reduceSub, Array.replicate_succ, Array.replicate_zero, List.push_toArray, List.append_toArray, List.nil_append, List.cons_append]
  gi_wp2
  gi_loopw [4] (fun i wr => ∃ (z : Int) (pre : List (Tk l)), i = .int .i64 z ∧ lo ≤ z ∧ (z = lo ∨ z ≤ hi) ∧ valsT pre = tokR l lo z ∧ J pre wr ∧ KpT w0.heap.size b1 b2 W wr) (fun i _ => (hi - intOf i).toNat)
  case atStart =>
    exact ⟨lo, [], rfl, Int.le_refl _, .inl rfl, by rw [tokR_nil l (Int.le_refl _)]; rfl, h0, KpT.refl _ _ _ _⟩
  case round =>
    obtain ⟨z, pre, rfl, hz, hzh, hpre, hJs, hk⟩ := hrel
    have c1 : wr.cell? ⟨b1, 2, none⟩ = some (.int .i64 x2) := (blk_cell (hk.2.1.trans h1) 2).trans rfl
    have c2 : wr.cell? ⟨b2, 0, none⟩ = some (.slice A l.length c) := (blk_cell (hk.2.2.trans h2) 0).trans rfl
    have ehi' : (if (l.length : Int) < x2 then (l.length : Int) else x2) = hi := ehi
    by_cases hlt : z < hi
    · have hz0 : 0 ≤ z := by omega
      have hzl : z < (l.length : Int) := by omega
      obtain ⟨ad, rfl, ca, _, _⟩ := at_T61 (Kd.C_below hc (hW.trans hk.1)) z hz0 hzl
      by_cases g0 : (rd_T61 l z).f0 = 0
      · have b0 : ((rd_T61 l z).f0 != 0) = false := by simp [g0]
        have ht : tokB l z = false := by simp [tokB, g0]
        clear g0
        gi_wp2
        refine ⟨fun _ h => (by cases h), ?_⟩
        gi_wp2
        go_roundw
        case rel => exact ⟨z + 1, pre, rfl, by omega, .inr (by omega), by rw [hpre, tokR_succ l hz, if_neg (by rw [ht]; simp), List.append_nil], hJs, hk⟩
        case measure => simp only [intOf]; omega
      · have b0 : ((rd_T61 l z).f0 != 0) = true := by simp [g0]
        by_cases g1 : (rd_T61 l z).f0 = 1
        · have bb1 : ((rd_T61 l z).f0 != 1) = false := by simp [g1]
          have ht : tokB l z = false := by simp [tokB, g1]
          gi_wp2
          refine ⟨fun _ h => (by cases h), ?_⟩
          gi_wp2
          go_roundw
          case rel => exact ⟨z + 1, pre, rfl, by omega, .inr (by omega), by rw [hpre, tokR_succ l hz, if_neg (by rw [ht]; simp), List.append_nil], hJs, hk⟩
          case measure => simp only [intOf]; omega
        · have bb1 : ((rd_T61 l z).f0 != 1) = true := by simp [g1]
          have ht : tokB l z = true := by simp [tokB, g0, g1]
          have hpl : pre.length < l.length := by
            have e1 : (valsT pre).length = pre.length := by simp [valsT]
            have := tokR_len l lo z
            rw [← hpre, e1] at this
            omega
          obtain ⟨fn, tmps, assign, body, hy, hR⟩ := hY pre ⟨z, hz0, hzl, ht⟩ wr hJs hpl
          dsimp only at hy
          gi_wp2
          refine hR.mono ?_
          rintro e W3 (⟨rfl, hJ3, hk3⟩ | ⟨rfl, hJx3⟩)
          · gi_wp2
            go_roundw
            case rel => exact ⟨z + 1, pre ++ [⟨z, hz0, hzl, ht⟩], rfl, by omega, .inr (by omega), by rw [tokR_succ l hz, if_pos ht, ← hpre]; simp [valsT], hJ3, hk.trans hk3⟩
            case measure => simp only [intOf]; omega
          · gi_wp2
            refine bodyPost_ret (results_none rfl _ _ _) rfl ?_
            refine ⟨⟨_, rfl⟩, .inr ⟨_, ?_, hJx3⟩⟩
            have e1 : valsT (pre ++ [⟨z, hz0, hzl, ht⟩]) = tokR l lo (z + 1) := by rw [tokR_succ l hz, if_pos ht, ← hpre]; simp [valsT]
            rw [e1]
            exact tokR_prefix l (by omega)
    · gi_wp2
      go_end0
      refine ⟨⟨_, rfl⟩, .inl ⟨pre, ?_, hJs⟩⟩
      rcases hzh with rfl | hzh
      · rw [hpre, tokR_nil l (Int.le_refl _), tokR_nil l (by omega)]
      · rw [hpre, show z = hi by omega]

theorem tokens_stops (n : Nat) (hn : 1 ≤ n) (b1 b2 : Nat) (w0 w : World) (A : Option Addr) (c : Nat) (l : List S61) (x0 x1 x2 x3 : Int) (hl : l.length < 4611686018427387904) (hc : Kd.C k61 w0 A l.length l)
    (hW : Below w0.heap.size w0 w) (h1 : w.heap[b1]? = some (.cells #[.int .u8 x0, .int .i64 x1, .int .i64 x2, .int .i64 x3] 47 (0, 0))) (h2 : w.heap[b2]? = some (.cells #[.slice A l.length c] 22 (0, 0))) :
    SeqStopsK Fence.wide n Try.prog 62 #[.pointer (some ⟨b1, 0, none⟩), .pointer (some ⟨b2, 0, none⟩)] (fun x : Tk l => #[.int .i64 x.1]) (KpT w0.heap.size b1 b2) (fun ys => valsT ys = tokR l (mx x1 0) (mn x2 (l.length : Int))) (fun pre => valsT pre <+: tokR l (mx x1 0) (mn x2 (l.length : Int))) l.length w :=
  fun lp J Jx W hb _ _ hY h0 => tokens1_in n hn lp b1 b2 w0 A c l x0 x1 x2 x3 hl hc J Jx hY W (hW.trans (hb.mono hW.size)) (blk_below h1 hb) (blk_below h2 hb) h0

theorem tokens.calls (A : Option Addr) (m c : Nat) (x0 x1 x2 x3 : Int) (w : World) :
    Calls Try.prog 53 #[.slice A m c, .agg #[.int .u8 x0, .int .i64 x1, .int .i64 x2, .int .i64 x3]] w fun e w' => ∃ b1 b2, e = .returned (.func (.func 62) #[] #[.pointer (some ⟨b1, 0, none⟩), .pointer (some ⟨b2, 0, none⟩)]) ∧
      w'.heap[b1]? = some (.cells #[.int .u8 x0, .int .i64 x1, .int .i64 x2, .int .i64 x3] 47 (0, 0)) ∧ w'.heap[b2]? = some (.cells #[.slice A m c] 22 (0, 0)) ∧ w.heap.size ≤ b1 ∧ w.heap.size ≤ b2 ∧ Below w.heap.size w w' := by
  have hu22 := Try.underlying22
  have hu47 := Try.underlying47
  have HB := Aside0.mk (Below.refl w.heap.size w)
  go_enter Try.func53, Try.ntmps53
  go_wp2_with (first
    | ((with_reducible refine gate_dst (N := 2) rfl ?_); refine box_event ?hg2 (N := 2) ?hd2 (cs := #[.slice A m c]) (t := 22) ?hr2 ?_; (case hd2 => rfl); (case hg2 => rfl); (case hr2 => first | (go_simp; done) | (go_simp; rfl)); intro g2 hg w1 hbox hb; have n0_ := Aside0.mk (below_step HB.out hb); have n1_ := Aside0.mk hbox; have GE2 := Aside0.mk (show w.heap.size ≤ g2 by rw [hg]; exact Nat.le_refl _); clear HB; have HB := n0_; have BK2 := n1_; clear n0_ n1_ hb hbox hg)
    | ((with_reducible refine gate_dst (N := 3) rfl ?_); refine box_event ?hg3 (N := 3) ?hd3 (cs := #[.int .u8 x0, .int .i64 x1, .int .i64 x2, .int .i64 x3]) (t := 47) ?hr3 ?_; (case hd3 => rfl); (case hg3 => rfl); (case hr3 => first | (go_simp; done) | (go_simp; rfl)); intro g3 hg w2 hbox hb; have n0_ := Aside0.mk (below_step HB.out hb); have n1_ := Aside0.mk hbox; have n2_ := Aside0.mk (blk_below BK2.out hb); have GE3 := Aside0.mk (show w.heap.size ≤ g3 by rw [hg]; exact HB.out.size); clear HB BK2; have HB := n0_; have BK3 := n1_; have BK2 := n2_; clear n0_ n1_ n2_ hb hbox hg))
  go_ret
  exact ⟨g3, g2, rfl, BK3.out, BK2.out, GE3.out, GE2.out, HB.out⟩
end Go.Proofs.Ytodldpdnhcafpaa.K

namespace Go.Proofs.Ytodldpdnhcafpaa.F
open Go.RowKit Go.Proofs.YtodldpdnhcafpaaW.PrintWords Go.Proofs.YtodldpdnhcafpaaW.PrintLast Go.Proofs.YtodldpdnhcafpaaW.PrintMore
open Go.Proofs.Ytodldpdnhcafpaa.K
set_option linter.unusedVariables false
set_option linter.unusedSimpArgs false

def tree_Kids.f (k : Nat) (l : List S47) (n : Int) : Option (List Int) := (kids.f k l n).bind fun r => if r.1.length < 17592186044415 then some (if r.2 = true then r.1 else []) else none
/-- What the captured variable holds. -/
def KJ (w0 : World) (g5 : Nat) (gb : Nat) (pre : List Int) (W : World) : Prop :=
  gb ≠ g5 ∧ ∃ v, W.heap[g5]? = some (.cells #[v] 33 (0, 0)) ∧ (Kd.int .i64).R 3 W w0.heap.size (fun k => k ≠ gb ∧ k ≠ g5) v pre
set_option maxHeartbeats 2000000 in
theorem tree_Kids.calls (k : Nat) (A : Option Addr) (c : Nat) (l : List S47) (n : Int) (r : List Int) (w : World) (hr : Kd.C k47 w A l.length l) (hc : l.length ≤ c) (h : tree_Kids.f k l n = some r) :
    Calls Try.prog 35 #[.agg #[.slice A l.length c], .int .i64 n] w fun e w' => ∃ v0_ : Value, e = .returned (v0_) ∧ Kd.R (Kd.int .i64) 3 w' w.heap.size (fun _ => True) v0_ r ∧ Below w.heap.size w w' := by
  have hu25 := Try.underlying25
  have hu33 := Try.underlying33
  obtain ⟨⟨ks, ok⟩, hk, h⟩ := Option.bind_eq_some_iff.1 h
  have hlen : ks.length < 17592186044415 := Classical.byContradiction fun hh => by rw [if_neg hh] at h; cases h
  rw [if_pos hlen] at h
  simp only [Option.some.injEq] at h
  have HL := Aside0.mk hlen
  have HF := Aside0.mk hk
  have HE := Aside0.mk h
  have HR := Aside0.mk hr
  have HC := Aside0.mk hc
  clear hlen hk h hr hc
  have HB := Aside0.mk (Below.refl w.heap.size w)
  have EG : ∀ args W, (callFunc 57 args).run Try.prog W = .ok (.enter 57 args) W := fun args W => enters_ Try.func57 (by kernel_rfl) rfl args W
  have EG' := Aside0.mk EG
  clear EG
  go_enter Try.func35, Try.ntmps35
  go_wp2_with (first
    | ((with_reducible refine gate_dst (N := 2) rfl ?_); refine box_event ?hg2 (N := 2) ?hd2 (cs := #[.slice A l.length c]) (t := 25) ?hr2 ?_; (case hd2 => rfl); (case hg2 => rfl); (case hr2 => first | (go_simp; done) | (go_simp; rfl)); intro g2 hg w1 hbox hb; have n0_ := Aside0.mk (below_step HB.out hb); have n1_ := Aside0.mk hbox; clear HB; have HB := n0_; have BK2 := n1_; clear n0_ n1_ hb hbox hg; have hcz2 : w1.cell? ⟨g2, 0, none⟩ = some (.slice A l.length c) := (blk_cell BK2.out 0).trans rfl)
    | ((with_reducible refine gate_dst (N := 5) rfl ?_); refine box_event ?hg5 (N := 5) ?hd5 (cs := #[.slice none 0 0]) (t := 33) ?hr5 ?_; (case hd5 => rfl); (case hg5 => rfl); (case hr5 => first | (go_simp; done) | (go_simp; rfl)); intro g5 hg w2 hbox hb; have n0_ := Aside0.mk (below_step HB.out hb); have n1_ := Aside0.mk hbox; have n2_ := Aside0.mk (blk_below BK2.out hb); have n3_ := Aside0.mk (show w.heap.size ≤ g5 by rw [hg]; exact HB.out.size); clear HB BK2 hcz2; have HB := n0_; have BK5 := n1_; have BK2 := n2_; have GE5 := n3_; clear n0_ n1_ n2_ n3_ hb hbox hg; have hcz2 : w2.cell? ⟨g2, 0, none⟩ = some (.slice A l.length c) := (blk_cell BK2.out 0).trans rfl; have hcz5 : w2.cell? ⟨g5, 0, none⟩ = some (.slice none 0 0) := (blk_cell BK5.out 0).trans rfl))
  refine (kids.calls 57 #[.pointer (some ⟨g5, 0, none⟩)] EG'.out (KJ w g5) k A c l n ks ok w _ HR.out HC.out HB.out HF.out ?h0 ?hal ?hY).mono ?_
  case h0 => exact fun gb hgb => ⟨fun e => by have := blk_lt BK5.out; omega, _, BK5.out, Kd.R_nil _ _ _ _ _⟩
  case hal =>
    rintro gb pre W W' ⟨h1, v, h2, h3⟩ hb
    exact ⟨h1, v, blk_below h2 hb, Kd.R_below h3 hb⟩
  case hY =>
    rintro gb pre x W hp h0 h1 ⟨j1, v, j2, j3⟩ hge hlt hbW
    have hpl : pre.length < 17592186044415 := by
      have := hp.length_le
      rw [List.length_append, List.length_singleton] at this
      have := HL.out
      omega
    refine (kids1.calls x g5 gb v pre w W j2 j3 hpl hbW GE5.out j1 hlt).mono ?_
    rintro e w' ⟨hv, ⟨v', b1, b2⟩, b3, b4⟩
    exact ⟨hv, ⟨j1, v', b1, b2⟩, b3, b4⟩
  rintro e w3 ⟨rfl, ⟨gb, hj⟩, hb3⟩
  have HJ := Aside0.mk hj
  have HB3 := Aside0.mk hb3
  clear hj hb3 hcz2 hcz5
  cases ok with
  | false =>
    have he := HE.out
    simp only [Bool.false_eq_true, if_false] at he
    subst he
    go_wp2
    go_ret
    exact ⟨_, rfl, Kd.R_nil _ _ _ _ _, HB3.out⟩
  | true =>
    have he := HE.out
    simp only [if_true] at he
    subst he
    obtain ⟨j1, v, j2, j3⟩ := HJ.out
    obtain ⟨Av, cv, rfl⟩ := Kd.R_slice j3
    have hc5 : w3.cell? ⟨g5, 0, none⟩ = some (.slice Av ks.length cv) := (blk_cell j2 0).trans rfl
    have J3 := Aside0.mk j3
    clear j1 j2 j3 HJ
    go_wp2
    go_ret
    exact ⟨_, rfl, Kd.R_mono J3.out (fun _ _ => trivial), HB3.out⟩
end Go.Proofs.Ytodldpdnhcafpaa.F

-- Own (39): its contract
namespace Go.Proofs.Ytodldpdnhcafpaa.F
open Go.RowKit Go.Shelf Go.Proofs.YtodldpdnhcafpaaW.PrintWords Go.Proofs.YtodldpdnhcafpaaW.PrintLast Go.Proofs.YtodldpdnhcafpaaW.PrintMore
open Go.Proofs.Ytodldpdnhcafpaa.K
attribute [local go_sem] Oper.semAt_some
set_option linter.unusedVariables false
set_option linter.unusedSimpArgs false

/-- Does one of these kids hold the token? -/
def heldB (ns : List S47) (ks : List Int) (i : Int) : Bool := ks.any (fun k => decide ((rd_T47 ns k).f1 ≤ i) && decide (i < (rd_T47 ns k).f2))
def ownL (ns : List S47) (ks : List Int) (is : List Int) : List Int := is.filter (fun i => !heldB ns ks i)
def tree_Own.f (k : Nat) (l : List S61) (ns : List S47) (n : Int) : Option (List Int) :=
  if n < 0 then some [] else if n ≥ (ns.length : Int) then some [] else
    (tree_Kids.f k ns n).bind fun ks => if l.length < 17592186044415 ∧ ks.length < 17592186044415 ∧ (∀ x ∈ ks, 0 ≤ x ∧ x < (ns.length : Int)) then
      some (ownL ns ks (tokR l (mx (rd_T47 ns n).f1 0) (mn (rd_T47 ns n).f2 (l.length : Int)))) else none
theorem heldB_take {ns : List S47} {ks : List Int} {i : Int} {n : Nat} (h : heldB ns (ks.take n) i = true) : heldB ns ks i = true := by
  unfold heldB at *
  obtain ⟨x, hx, hp⟩ := List.any_eq_true.1 h
  exact List.any_eq_true.2 ⟨x, List.mem_of_mem_take hx, hp⟩
theorem ownL_held {l : List S61} {ns : List S47} {ks : List Int} {pre : List (Tk l)} {x : Tk l} (h : heldB ns ks x.1 = true) : ownL ns ks (valsT (pre ++ [x])) = ownL ns ks (valsT pre) := by
  simp [valsT, ownL, h]
theorem ownL_own {l : List S61} {ns : List S47} {ks : List Int} {pre : List (Tk l)} {x : Tk l} (h : heldB ns ks x.1 = false) : ownL ns ks (valsT (pre ++ [x])) = ownL ns ks (valsT pre) ++ [x.1] := by
  simp [valsT, ownL, h]
theorem ownL_len {l : List S61} {ns : List S47} {ks : List Int} {pre : List (Tk l)} : (ownL ns ks (valsT pre)).length ≤ pre.length := by
  unfold ownL
  refine Nat.le_trans (List.length_filter_le _ _) ?_
  simp [valsT]

set_option maxHeartbeats 2000000 in
set_option maxRecDepth 100000 in
theorem tree_Own.calls (k : Nat) (A0 : Option Addr) (c0 : Nat) (l0 : List S61) (A1_0 : Option Addr) (c1_0 : Nat) (l1_0 : List S47) (a2 : Int) (r : List Int) (w : World) (hr0 : Kd.C k61 w A0 l0.length l0) (hc0 : l0.length ≤ c0) (hr1_0 : Kd.C k47 w A1_0 l1_0.length l1_0) (hc1_0 : l1_0.length ≤ c1_0) (h : tree_Own.f k l0 l1_0 a2 = some r) :
    Calls Try.prog 39 #[.slice A0 l0.length c0, .agg #[.slice A1_0 l1_0.length c1_0], .int .i64 a2] w fun e w' => ∃ v0_ : Value, e = .returned (v0_) ∧ Kd.R (Kd.int .i64) 3 w' w.heap.size (fun _ => True) v0_ r ∧ Below w.heap.size w w' := by
  have hu22 := Try.underlying22
  have hu23 := Try.underlying23
  have hu25 := Try.underlying25
  have hu33 := Try.underlying33
  have hu47 := Try.underlying47
  have HR0 := Aside0.mk hr0
  have HR1 := Aside0.mk hr1_0
  have HC1 := Aside0.mk hc1_0
  have HB := Aside0.mk (Below.refl w.heap.size w)
  unfold tree_Own.f at h
  by_cases c7 : a2 < 0
  · rw [if_pos c7] at h
    obtain rfl := Option.some.inj h
    have c7b0 : decide (a2 < 0) = true := decide_eq_true c7
    clear c7 h
    go_enter Try.func39, Try.ntmps39
    go_wp2_with (first
      | ((with_reducible refine gate_dst (N := 4) rfl ?_); refine box_event ?hg4 (N := 4) ?hd4 (cs := #[.slice A1_0 l1_0.length c1_0]) (t := 25) ?hr4 ?_; (case hd4 => rfl); (case hg4 => rfl); (case hr4 => first | (go_simp; done) | (go_simp; rfl)); intro g4 hg w1 hbox hb; have n0_ := Aside0.mk (below_step HB.out hb); have n1_ := Aside0.mk hbox; clear HB; have HB := n0_; have BK4 := n1_; clear n0_ n1_ hb hbox hg))
    go_step3
    go_wp2
    rw [Exit.noGoto_ret]
    go_ret
    exact ⟨_, rfl, Kd.R_nil _ _ _ _ _, HB.out⟩
  rw [if_neg c7] at h
  have c7b0 : decide (a2 < 0) = false := decide_eq_false c7
  by_cases c8 : a2 ≥ (l1_0.length : Int)
  · rw [if_pos c8] at h
    obtain rfl := Option.some.inj h
    have c8b0 : decide (a2 ≥ (l1_0.length : Int)) = true := decide_eq_true c8
    clear c7 c8 h
    go_enter Try.func39, Try.ntmps39
    go_wp2_with (first
      | ((with_reducible refine gate_dst (N := 4) rfl ?_); refine box_event ?hg4 (N := 4) ?hd4 (cs := #[.slice A1_0 l1_0.length c1_0]) (t := 25) ?hr4 ?_; (case hd4 => rfl); (case hg4 => rfl); (case hr4 => first | (go_simp; done) | (go_simp; rfl)); intro g4 hg w1 hbox hb; have n0_ := Aside0.mk (below_step HB.out hb); have n1_ := Aside0.mk hbox; clear HB; have HB := n0_; have BK4 := n1_; clear n0_ n1_ hb hbox hg; have hcz4 : w1.cell? ⟨g4, 0, none⟩ = some (.slice A1_0 l1_0.length c1_0) := (blk_cell BK4.out 0).trans rfl))
    go_step3
    go_wp2
    rw [Exit.noGoto_ret]
    go_ret
    exact ⟨_, rfl, Kd.R_nil _ _ _ _ _, HB.out⟩
  rw [if_neg c8] at h
  have c8b0 : decide (a2 ≥ (l1_0.length : Int)) = false := decide_eq_false c8
  obtain ⟨ks, hks, h⟩ := Option.bind_eq_some_iff.1 h
  have hcond : l0.length < 17592186044415 ∧ ks.length < 17592186044415 ∧ (∀ x ∈ ks, 0 ≤ x ∧ x < (l1_0.length : Int)) := Classical.byContradiction fun hh => by rw [if_neg hh] at h; cases h
  rw [if_pos hcond] at h
  obtain ⟨hL0, hKL, hin⟩ := hcond
  obtain rfl := Option.some.inj h
  have HIN := Aside0.mk hin
  have HKS := Aside0.mk hks
  have HL0 := Aside0.mk hL0
  have C7 := Aside0.mk c7
  have C8 := Aside0.mk c8
  clear h hin hks hL0 c7 c8 hr0 hc0 hr1_0 hc1_0
  refine (callsIn_wide (n := 3)).1 ?_
  refine callsIn_of_wp_marks Try.func39 rfl trivial ?_ rfl
  simp only [Try.ntmps39, List.size_toArray, List.length_cons, List.length_nil, Nat.reduceAdd, Nat.reduceSub, Array.replicate_succ, Array.replicate_zero, List.push_toArray, List.append_toArray, List.nil_append, List.cons_append]
  refine wpIn_wide.2 ?_
  go_wp2_with (first
    | ((with_reducible refine gate_dst (N := 4) rfl ?_); refine box_event ?hg4 (N := 4) ?hd4 (cs := #[.slice A1_0 l1_0.length c1_0]) (t := 25) ?hr4 ?_; (case hd4 => rfl); (case hg4 => rfl); (case hr4 => first | (go_simp; done) | (go_simp; rfl)); intro g4 hg w1 hbox hb; have n0_ := Aside0.mk (below_step HB.out hb); have n1_ := Aside0.mk hbox; have GE4 := Aside0.mk (show w.heap.size ≤ g4 by rw [hg]; exact Nat.le_refl _); clear HB; have HB := n0_; have BK4 := n1_; clear n0_ n1_ hb hbox hg; have hcz4 : w1.cell? ⟨g4, 0, none⟩ = some (.slice A1_0 l1_0.length c1_0) := (blk_cell BK4.out 0).trans rfl))
  go_step3
  go_wp2_with (fail)
  refine (tree_Kids.calls k A1_0 c1_0 l1_0 a2 ks _ (Kd.C_below HR1.out HB.out) HC1.out HKS.out).mono ?_
  rintro e w2 ⟨vm, rfl, hvm, hb2⟩
  obtain ⟨Am, cm, rfl⟩ := Kd.R_slice hvm
  have HVM := Aside0.mk hvm
  have n0_ := Aside0.mk (below_step HB.out hb2)
  have n1_ := Aside0.mk (blk_below BK4.out hb2)
  clear HB BK4 hcz4 hvm hb2
  have HB := n0_
  have BK4 := n1_
  clear n0_ n1_
  go_wp2_with (fail)
  have b7 : ((w2.alloc (.cells #[.slice Am ks.length cm] 33)).alloc (.cells #[.slice none 0 0] 33)).heap[w2.heap.size]? = some (.cells #[.slice Am ks.length cm] 33 (0, 0)) := blk_alloc (blk_new w2 _) _
  have b8 : ((w2.alloc (.cells #[.slice Am ks.length cm] 33)).alloc (.cells #[.slice none 0 0] 33)).heap[w2.heap.size + 1]? = some (.cells #[.slice none 0 0] 33 (0, 0)) := by
    have e := blk_new (w2.alloc (.cells #[.slice Am ks.length cm] 33)) (.cells #[.slice none 0 0] 33)
    rwa [World.size_alloc] at e
  have b4 := blk_alloc (blk_alloc BK4.out (.cells #[.slice Am ks.length cm] 33)) (.cells #[.slice none 0 0] 33)
  have bm : (Kd.int .i64).R 3 ((w2.alloc (.cells #[.slice Am ks.length cm] 33)).alloc (.cells #[.slice none 0 0] 33)) w1.heap.size (fun k => k ≠ w2.heap.size + 1) (.slice Am ks.length cm) ks :=
    Kd.R_alloc (Kd.R_alloc (Kd.R_mono (Kd.R_bound HVM.out) (fun k hk => by have := hk.2.2.1; omega)) _) _
  have bb := below_alloc (below_alloc HB.out (.cells #[.slice Am ks.length cm] 33)) (.cells #[.slice none 0 0] 33)
  have g7w := HB.out.size
  have n78 : w2.heap.size ≠ w2.heap.size + 1 := by omega
  have n48 : g4 ≠ w2.heap.size + 1 := by have := blk_lt BK4.out; omega
  have s3 : w2.heap.size + 2 = ((w2.alloc (.cells #[.slice Am ks.length cm] 33)).alloc (.cells #[.slice none 0 0] 33)).heap.size := by simp
  have g8w : w.heap.size ≤ w2.heap.size + 1 := by omega
  clear HB BK4 HVM
  generalize (w2.alloc (.cells #[.slice Am ks.length cm] 33)).alloc (.cells #[.slice none 0 0] 33) = w3 at b7 b8 b4 bm bb s3 ⊢
  generalize w2.heap.size + 1 = g8 at b8 bm n78 n48 g8w ⊢
  generalize w2.heap.size = g7 at b7 n78 g7w s3 ⊢
  have HB := Aside0.mk bb
  have BK4 := Aside0.mk b4
  have BK7 := Aside0.mk b7
  have BK8 := Aside0.mk b8
  have HVM := Aside0.mk bm
  have N78 := Aside0.mk n78
  have N48 := Aside0.mk n48
  have G8W := Aside0.mk g8w
  clear bb b4 b7 b8 bm n78 n48 g8w s3 g7w
  have p211 : 0 ≤ a2 := by have := C7.out; omega
  have q211 : a2 < (l1_0.length : Int) := by have := C8.out; omega
  obtain ⟨ad1, e1, hx0, hx1, hx2, hx3⟩ := at_T47 (Kd.C_below HR1.out HB.out) a2 p211 q211
  cases e1
  replace p211 := eq_true p211
  replace q211 := eq_true q211
  have hcz4 : w3.cell? ⟨g4, 0, none⟩ = some (.slice (some ad1) l1_0.length c1_0) := (blk_cell BK4.out 0).trans rfl
  go_step3
  go_wp2_with (fail)
  refine (tokens.calls A0 l0.length c0 _ _ _ _ _).mono ?_
  rintro e w4 ⟨b1, b2, rfl, k1, k2, gb1, gb2, hb4⟩
  clear hx0 hx1 hx2 hx3 hcz4 p211 q211
  have n0_ := Aside0.mk (below_step HB.out hb4)
  have n4_ := Aside0.mk (blk_below BK4.out hb4)
  have n7_ := Aside0.mk (blk_below BK7.out hb4)
  have n8_ := Aside0.mk (blk_below BK8.out hb4)
  have nm_ := Aside0.mk (Kd.R_below HVM.out hb4)
  have nb1_ := Aside0.mk (show b1 ≠ g8 by have := blk_lt BK8.out; omega)
  have nb2_ := Aside0.mk (show b2 ≠ g8 by have := blk_lt BK8.out; omega)
  have K1 := Aside0.mk k1
  have K2 := Aside0.mk k2
  clear HB BK4 BK7 BK8 HVM hb4 k1 k2 gb1 gb2
  go_wp2_with (fail)
  refine rf1 (gf := 62) (lb := #[.pointer (some ⟨b1, 0, none⟩), .pointer (some ⟨b2, 0, none⟩)]) (p := 31) (s := 9) rfl (enters_of Try.func62 (by kernel_rfl) rfl) (tokens_stops 2 (by omega) b1 b2 w w4 A0 c0 l0 _ _ _ _ (by have := HL0.out; omega) HR0.out n0_.out K1.out K2.out) KpT.trans (KpT_b n0_.out.size (blk_lt K1.out) (blk_lt K2.out))
    (fun pre W => BoxR (Kd.int .i64) 33 3 g8 w.heap.size w4.heap.size (ownL l1_0 ks (valsT pre)) W ∧ KeepB w4 g8 W ∧ Below w.heap.size w W)
    (fun _ _ _ => False)
    (OwnFrom.and (boxR_own _) (OwnFrom.and (keepB_own w4 g8) (ownFrom_below (Nat.le_refl _) n0_.out.size)))
    (fun _ _ _ _ _ hs _ _ => hs)
    ⟨⟨_, n8_.out, Kd.R_nil _ _ _ _ _⟩, KeepB.refl _ _, n0_.out⟩ ?assign ?body ?done ?stop
  case assign =>
    intro lp x W K hK
    simp only [List.setIfInBounds_toArray, List.set_cons_zero, List.set_cons_succ] at hK ⊢
    gi_wp2
    exact hK
  case stop => exact fun _ _ _ _ _ _ h _ => h.elim
  case done =>
    rintro D ys W hD hys ⟨⟨v, hv, hR⟩, hk, hB⟩ hK
    rw [hys] at hR
    obtain ⟨Av, cv, rfl⟩ := Kd.R_slice hR
    have c8 : W.cell? ⟨g8, 0, none⟩ = some (.slice Av (ownL l1_0 ks (tokR l0 (mx (rd_T47 l1_0 a2).f1 0) (mn (rd_T47 l1_0 a2).f2 (l0.length : Int)))).length cv) := (blk_cell hv 0).trans rfl
    have HD := Aside0.mk hD
    have HV := Aside0.mk hR
    have HW := Aside0.mk hB
    have HK := Aside0.mk hK
    clear hD hys hv hR hk hB hK
    go_wp2
    refine ⟨by simp, .inl ⟨_, _, rfl, run_takeDeferred HK.out, ?_⟩⟩
    refine ⟨_, results_tmp rfl _ _ _, _, rfl, Kd.R_mono (R_own HV.out (grownBy_putObj' W D _) (fun r e => by cases e; exact ⟨_, HK.out, rfl⟩)) (fun _ _ => trivial), HW.out.grown (grownBy_putObj' W D _) HW.out.size (fun k e => by cases e; exact Nat.le_trans n0_.out.size HD.out)⟩
  case body =>
    rintro lp pre x W ⟨⟨v, hv, hR⟩, hk, hB⟩ hlt
    simp only [List.setIfInBounds_toArray, List.set_cons_zero, List.set_cons_succ]
    have c7 : W.cell? ⟨g7, 0, none⟩ = some (.slice Am ks.length cm) := (blk_cell (hk.blk n7_.out N78.out) 0).trans rfl
    obtain ⟨Av, cv, rfl⟩ := Kd.R_slice hR
    gi_wp2
    gi_loopw [11, 34] (fun v11 v34 wr => ∃ j : Int, v34 = .int .i64 j ∧ 0 ≤ j ∧ j ≤ (ks.length : Int) ∧ heldB l1_0 (ks.take j.toNat) x.1 = false ∧ wr = W) (fun v11 v34 _ => ((ks.length : Int) - intOf v34).toNat)
    case atStart => exact ⟨0, rfl, Int.le_refl _, by omega, rfl, rfl⟩
    case round =>
      obtain ⟨j, rfl, hj0, hjl, hno, rfl⟩ := hrel
      have c4 : wr.cell? ⟨g4, 0, none⟩ = some (.slice (some ad1) l1_0.length c1_0) := (blk_cell (hk.blk n4_.out N48.out) 0).trans rfl
      by_cases hj : j < (ks.length : Int)
      · have hmem : rd ks j ∈ ks := by
          have hjn : j.toNat < ks.length := by omega
          have e : rd ks j = ks[j.toNat] := by simp [rd, List.getD_eq_getElem?_getD, hjn]
          rw [e]
          exact List.getElem_mem _
        obtain ⟨hk0, hk1⟩ := HIN.out _ hmem
        obtain ⟨_, _, hcm⟩ := Kd.R_reads' (hk.R nm_.out)
        obtain ⟨adm, em, hxm⟩ := Kd.at_int hcm j hj0 hj
        obtain ⟨ad2, e2, _, hy1, hy2, _⟩ := at_T47 (Kd.C_below HR1.out hB) (rd ks j) hk0 hk1
        cases e2
        subst em
        have hst : heldB l1_0 (ks.take (j + 1).toNat) x.1 = (decide ((rd_T47 l1_0 (rd ks j)).f1 ≤ x.1) && decide (x.1 < (rd_T47 l1_0 (rd ks j)).f2)) := by
          have hjn : j.toNat < ks.length := by omega
          have e : rd ks j = ks[j.toNat] := by simp [rd, List.getD_eq_getElem?_getD, hjn]
          have e1 : (j + 1).toNat = j.toNat + 1 := by omega
          rw [e1, List.take_succ_eq_append_getElem hjn]
          unfold heldB at hno ⊢
          rw [List.any_append, hno, List.any_cons, List.any_nil, e, Bool.false_or, Bool.or_false]
        by_cases d1 : (rd_T47 l1_0 (rd ks j)).f1 ≤ x.1
        · by_cases d2 : x.1 < (rd_T47 l1_0 (rd ks j)).f2
          · gi_wp2
            have hh : heldB l1_0 ks x.1 = true := heldB_take (n := (j + 1).toNat) (by rw [hst, decide_eq_true d1, decide_eq_true d2]; rfl)
            refine ⟨KeepsFrom.refl _ _, KpT.refl _ _ _ _, ?_, hk, hB⟩
            rw [ownL_held hh]
            exact ⟨_, hv, hR⟩
          · gi_wp2
            go_roundw
            case rel => exact ⟨j + 1, rfl, by omega, by omega, by rw [hst, decide_eq_false d2, Bool.and_false], trivial⟩
            case measure => simp only [intOf]; omega
        · gi_wp2
          go_roundw
          case rel => exact ⟨j + 1, rfl, by omega, by omega, by rw [hst, decide_eq_false d1, Bool.false_and], trivial⟩
          case measure => simp only [intOf]; omega
      · obtain rfl : j = (ks.length : Int) := by omega
        have c8 : wr.cell? ⟨g8, 0, none⟩ = some (.slice Av (ownL l1_0 ks (valsT pre)).length cv) := (blk_cell hv 0).trans rfl
        have f8 := blk_frozen hv 0
        gi_wp2_with (gi_at_builtin; refine list_bridge _ (by rfl) _ _ ?_)
        have hno' : heldB l1_0 ks x.1 = false := by
          rw [show ((ks.length : Int)).toNat = ks.length by omega, List.take_length] at hno
          exact hno
        have HV := Aside0.mk hR
        have HW := Aside0.mk hB
        have HBX := Aside0.mk hv
        have HKK := Aside0.mk hk
        have hlen : (ownL l1_0 ks (valsT pre)).length < 17592186044415 := by
          have := ownL_len (ns := l1_0) (ks := ks) (pre := pre)
          have := HL0.out
          omega
        clear hR hB hv hk
        go_wp2_with (first
          | (at_builtin; refine Kd.R_append (Kd.int .i64) (w0 := w) w.heap.size rfl (.tmp 57) (.tmp 59) 33 3 (.int .i64 0) 8 rfl Try.underlying33 info3' rfl (by decide) (by omega) (.slice Av (ownL l1_0 ks (valsT pre)).length cv) (ownL l1_0 ks (valsT pre)) x.1 [.int .i64 x.1] (fun k => w4.heap.size ≤ k) (fun _ => False) rfl rfl ?aP (fun _ hk => hk.elim) ?aF ?aO ?aB ?aS ?aL ?_; (case aP => exact rfl); (case aF => exact (fun k hk => Nat.le_trans HKK.out.1 hk)); (case aO => exact HV.out); (case aB => exact HW.out); (case aS => exact HW.out.size); (case aL => omega); intro v1 w1 ho hb1 hg hat; have n0_ := Aside0.mk (blk_grown HBX.out hg (fun e => by have := HV.out.1 _ e.symm; have := blk_lt n8_.out; omega)); have HG := Aside0.mk hg; have HO := Aside0.mk ho; have HB1 := Aside0.mk hb1; clear c8 f8 ho hb1 hg hat; have c8 : w1.cell? ⟨g8, 0, none⟩ = some (.slice Av (ownL l1_0 ks (valsT pre)).length cv) := (blk_cell n0_.out 0).trans rfl; have f8 := blk_frozen n0_.out 0; obtain ⟨A1, c1, e1⟩ := Kd.R_slice HO.out; subst e1))
        (rw [noOut_normal]; gi_wp2)
        have hlt8 := blk_lt n8_.out
        have hne : ∀ k, k < w4.heap.size → some k ≠ (Value.slice Av (ownL l1_0 ks (valsT pre)).length cv).ownBlock := fun k hk e => by have := HV.out.1 _ e.symm; omega
        have hs1 : wr.heap.size ≤ w1.heap.size := HG.out.size
        have hs0 := HKK.out.1
        refine ⟨⟨by simpa using hs1, fun k o hk ho hc => ?_⟩, ⟨((Below.refl w.heap.size wr).grown HG.out HW.out.size (fun k e => by have := HV.out.1 _ e; have := n0_.out; have := HW.out.size; have := G8W.out; omega)).setCell (p := ⟨g8, 0, none⟩) G8W.out _, ?_, ?_⟩, ⟨_, blk_put n0_.out 0 _ rfl, ?_⟩, HKK.out.trans (by simpa using hs1) (fun k h1 h2 => ?_), below_set HB1.out G8W.out⟩
        · refine (Below.heap_setCell _ _ _ k (show k ≠ g8 by omega)).trans ((HG.out.block k (blk_lt ho) (fun e => ?_)).trans ho)
          obtain ⟨_, _, _, q, _, cells, hcell⟩ := (Kd.R_bound HV.out).1 k e.symm
          rw [hcell] at ho
          cases ho
          cases hc
        · exact (Below.heap_setCell _ _ _ b1 nb1_.out).trans (HG.out.block b1 (by have := blk_lt K1.out; omega) (hne b1 (blk_lt K1.out)))
        · exact (Below.heap_setCell _ _ _ b2 nb2_.out).trans (HG.out.block b2 (by have := blk_lt K2.out; omega) (hne b2 (blk_lt K2.out)))
        · rw [ownL_own hno']
          have e := Kd.R_far (p := ⟨g8, 0, none⟩) HO.out (fun k hk => (by have : w4.heap.size ≤ k := hk; show k ≠ g8; omega)) (.slice A1 (ownL l1_0 ks (valsT pre) ++ [x.1]).length c1)
          simpa only [List.length_append, List.length_singleton] using e
        · exact (Below.heap_setCell _ _ _ k h2).trans (HG.out.block k (by omega) (hne k h1))
end Go.Proofs.Ytodldpdnhcafpaa.F

-- A text of this session's own program (wip/myprint.sh over a changed print tool): functions and their walks
namespace Go.Proofs.Ytodldpdnhcafpaa.F
open Go.RowKit Go.Proofs.YtodldpdnhcafpaaW.PrintWords Go.Proofs.YtodldpdnhcafpaaW.PrintLast Go.Proofs.YtodldpdnhcafpaaW.PrintMore
attribute [local go_sem] max2_int min2_int max_two min_two max_three min_three max_four min_four   -- for this text's walks alone
set_option linter.unusedVariables false
set_option linter.unusedSimpArgs false

/-! ### monikerref4_token: function 63 -/
def monikerref4_token.f (a0 : Int) : Option (Bool) := if a0 = 0 then (some false) else (some (a0 != 1))
set_option maxHeartbeats 8000000 in
set_option maxRecDepth 100000 in
theorem monikerref4_token.calls (a0 : Int) (r : Bool) (w : World) (h : monikerref4_token.f a0 = some r) :
    Calls Try.prog 63 #[.int .u8 a0] w fun e w' => e = .returned (.bool r) ∧ Drawn0 w w' := by
  have H : (if a0 = 0 then (some false) else (some (a0 != 1))) = some r := h
  clear h
  by_cases c2 : a0 = 0
  · rw [if_pos c2] at H
    have c2b0 : (a0 == 0) = true := beq_iff_eq.mpr c2
    have c2b1 : (a0 != 0) = false := bne_eq_false_iff_eq.mpr c2
    clear c2
    obtain rfl := Option.some.inj H
    go_enter Try.func63, Try.ntmps63
    go_wp2
    go_ret
    exact ⟨by first | rfl | (simp; done) | (simp [*]; done), by repeat (first | exact Drawn0.refl _ | apply Drawn0.step)⟩
  · rw [if_neg c2] at H
    have c2b0 : (a0 == 0) = false := beq_eq_false_iff_ne.mpr c2
    have c2b1 : (a0 != 0) = true := bne_iff_ne.mpr c2
    obtain rfl := Option.some.inj H
    go_enter Try.func63, Try.ntmps63
    go_wp2
    go_ret
    exact ⟨by first | rfl | (simp; done) | (simp [*]; done), by repeat (first | exact Drawn0.refl _ | apply Drawn0.step)⟩

end Go.Proofs.Ytodldpdnhcafpaa.F

-- A text of this session's own program (wip/myprint.sh over a changed print tool): functions and their walks
namespace Go.Proofs.Ytodldpdnhcafpaa.F
open Go.RowKit Go.Proofs.YtodldpdnhcafpaaW.PrintWords Go.Proofs.YtodldpdnhcafpaaW.PrintLast Go.Proofs.YtodldpdnhcafpaaW.PrintMore
attribute [local go_sem] max2_int min2_int max_two min_two max_three min_three max_four min_four   -- for this text's walks alone
set_option linter.unusedVariables false
set_option linter.unusedSimpArgs false

/-! ### monikerref4_Tokens: function 54 -/
mutual
def monikerref4_Tokens.l0 : Nat → List (S61) → List Int → Int → Int → Int → Int → Int → Option (List Int)
  | 0, _, _, _, _, _, _, _ => none
  | k + 1, x0, x5, x6, x205000, x205001, x205002, x205003 => if x6 < x205002 then (monikerref4_Tokens.j1 k x0 x5 x6 (decide (x6 < (x0.length : Int))) x205000 x205001 x205002 x205003) else (monikerref4_Tokens.j1 k x0 x5 x6 false x205000 x205001 x205002 x205003)
def monikerref4_Tokens.j1 : Nat → List (S61) → List Int → Int → Bool → Int → Int → Int → Int → Option (List Int)
  | 0, _, _, _, _, _, _, _, _ => none
  | k + 1, x0, x5, x6, x19, x205000, x205001, x205002, x205003 => if x19 = true then (if 0 ≤ x6 then (if x6 < (x0.length : Int) then ((monikerref4_token.f ((rd_T61 x0 x6).f0)).bind fun t206 => (if t206 = true then (if x5.length < 17592186044416 then (monikerref4_Tokens.l0 k x0 (x5 ++ [x6]) (wrap64 (x6 + 1)) x205000 x205001 x205002 x205003) else (none)) else (monikerref4_Tokens.l0 k x0 x5 (wrap64 (x6 + 1)) x205000 x205001 x205002 x205003))) else (none)) else (none)) else (some x5)
end
def monikerref4_Tokens.f (k : Nat) (l0 : List (S61)) (a1_0 : Int) (a1_1 : Int) (a1_2 : Int) (a1_3 : Int) : Option (List Int) := monikerref4_Tokens.l0 k l0 ([] : List Int) (mx a1_1 0) a1_0 a1_1 a1_2 a1_3
set_option maxHeartbeats 8000000 in
set_option maxRecDepth 100000 in
theorem monikerref4_Tokens.calls (k : Nat) (A0 : Option Addr) (c0 : Nat) (l0 : List (S61)) (a1_0 : Int) (a1_1 : Int) (a1_2 : Int) (a1_3 : Int) (r : List Int) (w : World) (hr0 : Kd.C k61 w A0 l0.length l0) (hc0 : l0.length ≤ c0) (h : monikerref4_Tokens.f k l0 a1_0 a1_1 a1_2 a1_3 = some r) :
    Calls Try.prog 54 #[.slice A0 l0.length c0, .agg #[.int .u8 a1_0, .int .i64 a1_1, .int .i64 a1_2, .int .i64 a1_3]] w fun e w' => ∃ v0_ : Value, e = .returned (v0_) ∧ Kd.R (Kd.int .i64) 3 w' w.heap.size (fun _ => True) v0_ r ∧ Below w.heap.size w w' := by
  have hu47 := Try.underlying47
  have HR0 := Aside0.mk hr0
  have HC0 := Aside0.mk hc0
  clear hr0 hc0
  have HB := Aside0.mk (Below.refl w.heap.size w)
  have H : (monikerref4_Tokens.l0 k l0 ([] : List Int) (mx a1_1 0) a1_0 a1_1 a1_2 a1_3) = some r := h
  clear h
  obtain ⟨ji3, hji3⟩ : ∃ j_ : Int, (mx a1_1 0) = j_ := ⟨_, rfl⟩
  replace H : (monikerref4_Tokens.l0 k l0 ([] : List Int) ji3 a1_0 a1_1 a1_2 a1_3) = some r := by first | (rw [hji3] at H; exact H) | (simp only [hji3] at H ⊢; exact H)
  (try (have hji3l : 0 ≤ ji3 := by (rw [← hji3]; unfold mx; (repeat' split) <;> omega)))
  (try (have hji3m : 0 ≤ ji3 := by omega))
  have hji3_ : (if a1_1 < 0 then 0 else a1_1) = ji3 := hji3
  have H' := Aside0.mk H
  clear H
  go_enter Try.func54, Try.ntmps54
  go_wp2_with (first | ((with_reducible refine gate_dst (N := 3) rfl ?_); (try (refine gate_guard (by rfl) ?_; dsimp only)); refine box_event ?hg (N := 3) ?hd (cs := #[.int .u8 a1_0, .int .i64 a1_1, .int .i64 a1_2, .int .i64 a1_3]) (t := 47) ?hr ?_; (case hd => rfl); (case hg => rfl); (case hr => first | (go_simp; done) | (go_simp; rfl)); intro gb204 hg w4 hbox hb; have n0_ := Aside0.mk (below_step (by repeat (first | (with_reducible first | exact HB.out | apply below_alloc | apply pw_below_drewN | apply below_drew1) | exact HB.out)) hb); have n1_ := Aside0.mk (hbox); have n2_ := Aside0.mk ((by rw [hg]; exact (below_size (by repeat (first | (with_reducible first | exact HB.out | apply below_alloc | apply pw_below_drewN | apply below_drew1) | exact HB.out))) : w.heap.size ≤ gb204)); have n3_ := Aside0.mk ((by rw [hg]; exact (below_size (by repeat (first | (with_reducible first | exact HB.out | apply below_alloc | apply pw_below_drewN | apply below_drew1) | exact HB.out))) : w.heap.size ≤ gb204)); clear HB; have HB := n0_; have BK204 := n1_; have GW204 := n2_; have GE204 := n3_; clear n0_ n1_ n2_ n3_; clear hb hbox hg; have hcz5_0 : w4.cell? ⟨gb204, 0, none⟩ = some (.int .u8 a1_0) := (blk_cell BK204.out 0).trans rfl; have hcz5_1 : w4.cell? ⟨gb204, 1, none⟩ = some (.int .i64 a1_1) := (blk_cell BK204.out 1).trans rfl; have hcz5_2 : w4.cell? ⟨gb204, 2, none⟩ = some (.int .i64 a1_2) := (blk_cell BK204.out 2).trans rfl; have hcz5_3 : w4.cell? ⟨gb204, 3, none⟩ = some (.int .i64 a1_3) := (blk_cell BK204.out 3).trans rfl; have hfz5_0 := blk_frozen BK204.out 0; have hfz5_1 := blk_frozen BK204.out 1; have hfz5_2 := blk_frozen BK204.out 2; have hfz5_3 := blk_frozen BK204.out 3))
  go_loopg [5, 6] k (fun kq v5 v6 w' => ∃ (x5_1 : List Int) (x6_1 : Int), v6 = .int .i64 x6_1 ∧ Aside0 (monikerref4_Tokens.l0 kq l0 x5_1 x6_1 a1_0 a1_1 a1_2 a1_3 = some r) ∧ Aside0 (kq ≤ k) ∧ Aside0 (Kd.R (Kd.int .i64) 3 w' w.heap.size (fun _ => True) v5 x5_1) ∧ Aside0 (w'.heap[gb204]? = some (.cells #[.int .u8 a1_0, .int .i64 a1_1, .int .i64 a1_2, .int .i64 a1_3] 47 (0, 0))) ∧ Aside0 (Below w.heap.size w w'))
  case atStart => exact ⟨(([] : List Int)), (ji3), (by first | rfl | (simp; done) | (simp only [← hji3] <;> (first | rfl | simp)) | (simp [*]; done)), H', ⟨Nat.le_refl _⟩, ⟨by first | exact Kd.R_nil _ _ _ _ _ | exact Kd.N_nil _ _ _ _ _ | exact Kd.V_nil _ _ _ _ _ | exact Kd.Q_nil _ _ _ _ _ | exact Kd.S_nil _ _ _ _ _⟩, ⟨by (with_reducible repeat (first | refine blk_drewN ?_ _ | refine blk_drew ?_ | refine blk_alloc ?_ _)); exact BK204.out⟩, ⟨by repeat (first | (with_reducible first | exact HB.out | apply below_alloc | apply pw_below_drewN | apply below_drew1 | refine below_set ?_ GE204.out) | exact HB.out)⟩⟩
  case round =>
    clear H'
    try clear p2
    try clear c5
    try clear hcz5_0
    try clear hcz5_1
    try clear hcz5_2
    try clear hcz5_3
    try clear hfz5_0
    try clear hfz5_1
    try clear hfz5_2
    try clear hfz5_3
    obtain ⟨x5_1, x6_1, rfl, HA, HK1, HO_5, BK204, HB⟩ := hrel
    cases gk with
    | zero => exact absurd HA.out (by simp [monikerref4_Tokens.l0])
    | succ k1 =>
      have H := HA.out
      clear HA
      simp only [monikerref4_Tokens.l0] at H
      have HC6 := Aside0.mk H
      clear H
      go_upto_region 3 with (fail)
      go_cut [19] (fun v19 wc => ∃ (kq : Nat) (x19_5 : Bool), v19 = .bool x19_5 ∧ Aside0 (monikerref4_Tokens.j1 kq l0 x5_1 x6_1 x19_5 a1_0 a1_1 a1_2 a1_3 = some r) ∧ Aside0 (kq ≤ k1) ∧ Aside0 (Kd.R (Kd.int .i64) 3 wc w.heap.size (fun _ => True) u5 x5_1) ∧ Aside0 (wc.heap[gb204]? = some (.cells #[.int .u8 a1_0, .int .i64 a1_1, .int .i64 a1_2, .int .i64 a1_3] 47 (0, 0))) ∧ Aside0 (Below w.heap.size w wc))
      case first =>
        have H := HC6.out
        clear HC6
        by_cases c7 : x6_1 < a1_2
        · rw [if_pos c7] at H
          have c7b0 : decide (x6_1 < a1_2) = true := decide_eq_true c7
          clear c7
          (first | rw [c7b0] | (simp only [i64_w, i32_w]; rw [c7b0]) | skip)
          have H' := Aside0.mk H
          clear H
          have hcz8_0 : wr.cell? ⟨gb204, 0, none⟩ = some (.int .u8 a1_0) := (blk_cell BK204.out 0).trans rfl
          have hcz8_1 : wr.cell? ⟨gb204, 1, none⟩ = some (.int .i64 a1_1) := (blk_cell BK204.out 1).trans rfl
          have hcz8_2 : wr.cell? ⟨gb204, 2, none⟩ = some (.int .i64 a1_2) := (blk_cell BK204.out 2).trans rfl
          have hcz8_3 : wr.cell? ⟨gb204, 3, none⟩ = some (.int .i64 a1_3) := (blk_cell BK204.out 3).trans rfl
          have hfz8_0 := blk_frozen BK204.out 0
          have hfz8_1 := blk_frozen BK204.out 1
          have hfz8_2 := blk_frozen BK204.out 2
          have hfz8_3 := blk_frozen BK204.out 3
          go_wp2
          go_meet
          case rel => exact ⟨_, (decide (x6_1 < (l0.length : Int))), (by first | rfl | (simp; done) | (simp [*]; done)), H', ⟨by have := HK1.out; first | omega | exact Nat.le_refl _⟩, ⟨by (with_reducible repeat (first | apply Kd.R_alloc | apply Kd.R_drewN | apply Kd.R_drew)); exact HO_5.out⟩, ⟨by (with_reducible repeat (first | refine blk_drewN ?_ _ | refine blk_drew ?_ | refine blk_alloc ?_ _)); exact BK204.out⟩, ⟨by repeat (first | (with_reducible first | exact HB.out | apply below_alloc | apply pw_below_drewN | apply below_drew1 | refine below_set ?_ GE204.out) | exact HB.out)⟩⟩
        · rw [if_neg c7] at H
          have c7b0 : decide (x6_1 < a1_2) = false := decide_eq_false c7
          clear c7
          (first | rw [c7b0] | (simp only [i64_w, i32_w]; rw [c7b0]) | skip)
          have H' := Aside0.mk H
          clear H
          have hcz9_0 : wr.cell? ⟨gb204, 0, none⟩ = some (.int .u8 a1_0) := (blk_cell BK204.out 0).trans rfl
          have hcz9_1 : wr.cell? ⟨gb204, 1, none⟩ = some (.int .i64 a1_1) := (blk_cell BK204.out 1).trans rfl
          have hcz9_2 : wr.cell? ⟨gb204, 2, none⟩ = some (.int .i64 a1_2) := (blk_cell BK204.out 2).trans rfl
          have hcz9_3 : wr.cell? ⟨gb204, 3, none⟩ = some (.int .i64 a1_3) := (blk_cell BK204.out 3).trans rfl
          have hfz9_0 := blk_frozen BK204.out 0
          have hfz9_1 := blk_frozen BK204.out 1
          have hfz9_2 := blk_frozen BK204.out 2
          have hfz9_3 := blk_frozen BK204.out 3
          go_wp2
          go_meet
          case rel => exact ⟨_, (false), (by first | rfl | (simp; done) | (simp [*]; done)), H', ⟨by have := HK1.out; first | omega | exact Nat.le_refl _⟩, ⟨by (with_reducible repeat (first | apply Kd.R_alloc | apply Kd.R_drewN | apply Kd.R_drew)); exact HO_5.out⟩, ⟨by (with_reducible repeat (first | refine blk_drewN ?_ _ | refine blk_drew ?_ | refine blk_alloc ?_ _)); exact BK204.out⟩, ⟨by repeat (first | (with_reducible first | exact HB.out | apply below_alloc | apply pw_below_drewN | apply below_drew1 | refine below_set ?_ GE204.out) | exact HB.out)⟩⟩
      case rest =>
        clear HC6
        try clear p2
        try clear c5
        try clear c7
        try clear c7b0
        try clear hcz5_0
        try clear hcz5_1
        try clear hcz5_2
        try clear hcz5_3
        try clear hcz8_0
        try clear hcz8_1
        try clear hcz8_2
        try clear hcz8_3
        try clear hcz9_0
        try clear hcz9_1
        try clear hcz9_2
        try clear hcz9_3
        try clear hfz5_0
        try clear hfz5_1
        try clear hfz5_2
        try clear hfz5_3
        try clear hfz8_0
        try clear hfz8_1
        try clear hfz8_2
        try clear hfz8_3
        try clear hfz9_0
        try clear hfz9_1
        try clear hfz9_2
        try clear hfz9_3
        try clear p2
        obtain ⟨kq, x19_5, rfl, HA, HJ5, HO_5, BK204, HB⟩ := hcut
        cases kq with
        | zero => exact absurd HA.out (by simp [monikerref4_Tokens.j1])
        | succ kj5 =>
          have H := HA.out
          clear HA
          simp only [monikerref4_Tokens.j1] at H
          by_cases c10 : x19_5 = true
          · subst c10
            have H1 : (if 0 ≤ x6_1 then (if x6_1 < (l0.length : Int) then ((monikerref4_token.f ((rd_T61 l0 x6_1).f0)).bind fun t206 => (if t206 = true then (if x5_1.length < 17592186044416 then (monikerref4_Tokens.l0 kj5 l0 (x5_1 ++ [x6_1]) (wrap64 (x6_1 + 1)) a1_0 a1_1 a1_2 a1_3) else (none)) else (monikerref4_Tokens.l0 kj5 l0 x5_1 (wrap64 (x6_1 + 1)) a1_0 a1_1 a1_2 a1_3))) else (none)) else (none)) = some r := by rw [if_pos rfl] at H; exact H
            clear H
            have H := H1
            clear H1
            by_cases c11 : 0 ≤ x6_1
            · rw [if_pos c11] at H
              have c11b0 : decide (0 ≤ x6_1) = true := decide_eq_true c11
              clear c11
              by_cases c12 : x6_1 < (l0.length : Int)
              · rw [if_pos c12] at H
                have c12b0 : decide (x6_1 < (l0.length : Int)) = true := decide_eq_true c12
                clear c12
                replace H := Option.bind_eq_some_iff.mp H
                obtain ⟨t206, A130, H⟩ := H
                replace H : (if t206 = true then (if x5_1.length < 17592186044416 then (monikerref4_Tokens.l0 kj5 l0 (x5_1 ++ [x6_1]) (wrap64 (x6_1 + 1)) a1_0 a1_1 a1_2 a1_3) else (none)) else (monikerref4_Tokens.l0 kj5 l0 x5_1 (wrap64 (x6_1 + 1)) a1_0 a1_1 a1_2 a1_3)) = some r := H
                have A13 := Aside0.mk A130
                clear A130
                by_cases c14 : t206 = true
                · subst c14
                  have H1 : (if x5_1.length < 17592186044416 then (monikerref4_Tokens.l0 kj5 l0 (x5_1 ++ [x6_1]) (wrap64 (x6_1 + 1)) a1_0 a1_1 a1_2 a1_3) else (none)) = some r := by rw [if_pos rfl] at H; exact H
                  clear H
                  have H := H1
                  clear H1
                  by_cases c15 : x5_1.length < 17592186044416
                  · rw [if_pos c15] at H
                    have LMc15 := Aside0.mk c15
                    clear c15
                    obtain ⟨y207, hy207⟩ : ∃ y_ : List Int, y_ = (x5_1 ++ [x6_1]) := ⟨_, rfl⟩
                    replace H : (monikerref4_Tokens.l0 kj5 l0 y207 (wrap64 (x6_1 + 1)) a1_0 a1_1 a1_2 a1_3) = some r := by first | (rw [hy207]; with_reducible exact H) | (have H2_ := (Option.bind_some _ _).symm.trans H; rw [hy207]; with_reducible exact H2_) | (have H2_ := (Option.bind_some _ _).symm.trans H; with_reducible exact H2_) | with_reducible exact H | (rw [hy207]; exact H) | exact H
                    have Ny207 := Aside0.mk hy207
                    clear hy207
                    have H' := Aside0.mk H
                    clear H
                    have p205 : 0 ≤ (x6_1 : Int) := of_decide_eq_true (by first | (with_reducible assumption) | assumption)
                    have q205 : x6_1 < (l0.length : Int) := of_decide_eq_true (by first | (with_reducible assumption) | assumption)
                    obtain ⟨ad205, e205, hx205_0, hx205_1, hx205_2⟩ := at_T61 HR0.out x6_1 p205 q205
                    cases e205
                    replace hx205_0 := (HB.out.cell (World.block_lt_of_cell? w _ hx205_0)).trans hx205_0
                    replace hx205_1 := (HB.out.cell (World.block_lt_of_cell? w _ hx205_1)).trans hx205_1
                    replace hx205_2 := (HB.out.cell (World.block_lt_of_cell? w _ hx205_2)).trans hx205_2
                    replace p205 := eq_true p205
                    replace q205 := eq_true q205
                    go_wp2_with (first | ((with_reducible refine gate_callee (f := 63) rfl ?_); refine goesL_ (some 27) rfl rfl Try.func63 (by kernel_rfl) rfl #[.int .u8 ((rd_T61 l0 x6_1).f0)] rfl (by (try simp only [List.map_toArray, List.map_cons, List.map_nil]); first | done | rfl | (simp only [List.length_drop, List.length_take]; rfl)) ?_; (with_reducible refine (monikerref4_token.calls ((rd_T61 l0 x6_1).f0) true _ A13.out).mono ?_); rintro e w' ⟨rfl, ⟨nd, rfl⟩⟩; refine ⟨_, rfl, ?_⟩) | ((with_reducible refine gate_builtin (b := .append) (xs := #[.tmp 28, .tmp 30]) rfl ?_); (try (refine gate_guard (by rfl) ?_; dsimp only)); at_builtin; refine Kd.R_append (Kd.int .i64) (w0 := w) w.heap.size rfl (.tmp 28) (.tmp 30) 33 3 (.int .i64 0) 8 rfl Try.underlying33 info3 rfl (by decide) (by omega) u5 x5_1 x6_1 [.int .i64 x6_1] (fun _ => True) (fun _ => False) rfl rfl ?aP (fun _ hk => hk.elim) ?aF ?aO ?aB ?aS ?aL ?_; (case aP => exact rfl); (case aB => exact (by repeat (first | (with_reducible first | exact HB.out | apply below_alloc | apply pw_below_drewN | apply below_drew1 | refine below_set ?_ GE204.out) | exact HB.out))); (case aF => exact (fun _ _ => trivial)); (case aO => exact (by (with_reducible repeat (first | apply Kd.R_alloc | apply Kd.R_drewN | apply Kd.R_drew)); exact HO_5.out)); (case aS => exact (below_size (by repeat (first | (with_reducible first | exact HB.out | apply below_alloc | apply pw_below_drewN | apply below_drew1 | refine below_set ?_ GE204.out) | exact HB.out)))); (case aL => have := LMc15.out; omega); intro v208 w16 ho hb hg hat; rw [← Ny207.out] at ho; have n0_ := Aside0.mk (blk_grown (g := gb204) (o := .cells #[.int .u8 a1_0, .int .i64 a1_1, .int .i64 a1_2, .int .i64 a1_3] 47 (0, 0)) (by (with_reducible repeat (first | refine blk_drewN ?_ _ | refine blk_drew ?_ | refine blk_alloc ?_ _)); exact BK204.out) hg (Kd.R_ne HO_5.out BK204.out (by decide))); have n1_ := Aside0.mk (hb); have n2_ := Aside0.mk (ho); clear BK204; clear HB; clear HO_5; have BK204 := n0_; have HB := n1_; have HO209 := n2_; clear n0_ n1_ n2_; clear ho hb hg hat))
                    go_roundg kj5
                    case measure => have := HK1.out; have := HJ5.out; omega
                    case rel => exact ⟨(y207), (wrap64 (x6_1 + 1)), (by first | rfl | (simp; done) | (simp [*]; done)), H', ⟨by have := HK1.out; have := HJ5.out; omega⟩, ⟨by (with_reducible repeat (first | apply Kd.R_alloc | apply Kd.R_drewN | apply Kd.R_drew)); exact HO209.out⟩, ⟨by (with_reducible repeat (first | refine blk_drewN ?_ _ | refine blk_drew ?_ | refine blk_alloc ?_ _)); exact BK204.out⟩, ⟨by repeat (first | (with_reducible first | exact HB.out | apply below_alloc | apply pw_below_drewN | apply below_drew1 | refine below_set ?_ GE204.out) | exact HB.out)⟩⟩
                  · rw [if_neg c15] at H
                    exact absurd H (by simp)
                · replace c14 := Bool.eq_false_iff.mpr c14
                  subst c14
                  have H1 : (monikerref4_Tokens.l0 kj5 l0 x5_1 (wrap64 (x6_1 + 1)) a1_0 a1_1 a1_2 a1_3) = some r := by rw [if_neg (show ¬ (false = true) by decide)] at H; exact H
                  clear H
                  have H := H1
                  clear H1
                  have H' := Aside0.mk H
                  clear H
                  have p205 : 0 ≤ (x6_1 : Int) := of_decide_eq_true (by first | (with_reducible assumption) | assumption)
                  have q205 : x6_1 < (l0.length : Int) := of_decide_eq_true (by first | (with_reducible assumption) | assumption)
                  obtain ⟨ad205, e205, hx205_0, hx205_1, hx205_2⟩ := at_T61 HR0.out x6_1 p205 q205
                  cases e205
                  replace hx205_0 := (HB.out.cell (World.block_lt_of_cell? w _ hx205_0)).trans hx205_0
                  replace hx205_1 := (HB.out.cell (World.block_lt_of_cell? w _ hx205_1)).trans hx205_1
                  replace hx205_2 := (HB.out.cell (World.block_lt_of_cell? w _ hx205_2)).trans hx205_2
                  replace p205 := eq_true p205
                  replace q205 := eq_true q205
                  go_wp2_with (first | ((with_reducible refine gate_callee (f := 63) rfl ?_); refine goesL_ (some 27) rfl rfl Try.func63 (by kernel_rfl) rfl #[.int .u8 ((rd_T61 l0 x6_1).f0)] rfl (by (try simp only [List.map_toArray, List.map_cons, List.map_nil]); first | done | rfl | (simp only [List.length_drop, List.length_take]; rfl)) ?_; (with_reducible refine (monikerref4_token.calls ((rd_T61 l0 x6_1).f0) false _ A13.out).mono ?_); rintro e w' ⟨rfl, ⟨nd, rfl⟩⟩; refine ⟨_, rfl, ?_⟩))
                  go_roundg kj5
                  case measure => have := HK1.out; have := HJ5.out; omega
                  case rel => exact ⟨(x5_1), (wrap64 (x6_1 + 1)), (by first | rfl | (simp; done) | (simp [*]; done)), H', ⟨by have := HK1.out; have := HJ5.out; omega⟩, ⟨by (with_reducible repeat (first | apply Kd.R_alloc | apply Kd.R_drewN | apply Kd.R_drew)); exact HO_5.out⟩, ⟨by (with_reducible repeat (first | refine blk_drewN ?_ _ | refine blk_drew ?_ | refine blk_alloc ?_ _)); exact BK204.out⟩, ⟨by repeat (first | (with_reducible first | exact HB.out | apply below_alloc | apply pw_below_drewN | apply below_drew1 | refine below_set ?_ GE204.out) | exact HB.out)⟩⟩
              · rw [if_neg c12] at H
                exact absurd H (by simp)
            · rw [if_neg c11] at H
              exact absurd H (by simp)
          · replace c10 := Bool.eq_false_iff.mpr c10
            subst c10
            have H1 : (some x5_1) = some r := by rw [if_neg (show ¬ (false = true) by decide)] at H; exact H
            clear H
            have H := H1
            clear H1
            obtain rfl := Option.some.inj H
            go_wp2
            go_ret
            exact ⟨_, by first | rfl | (simp [errW_none, errW_some] <;> rfl) | (simp only [← hji3]; first | rfl | (simp [errW_none, errW_some] <;> rfl)) | (simp [*, errW_none, errW_some] <;> rfl), by (with_reducible repeat (first | apply Kd.R_alloc | apply Kd.R_drewN | apply Kd.R_drew)); exact HO_5.out, by repeat (first | (with_reducible first | exact HB.out | apply below_alloc | apply pw_below_drewN | apply below_drew1 | refine below_set ?_ GE204.out) | exact HB.out)⟩

end Go.Proofs.Ytodldpdnhcafpaa.F

-- A text of this session's own program (wip/myprint.sh over a changed print tool): functions and their walks
namespace Go.Proofs.Ytodldpdnhcafpaa.F
open Go.RowKit Go.Proofs.YtodldpdnhcafpaaW.PrintWords Go.Proofs.YtodldpdnhcafpaaW.PrintLast Go.Proofs.YtodldpdnhcafpaaW.PrintMore
attribute [local go_sem] max2_int min2_int max_two min_two max_three min_three max_four min_four   -- for this text's walks alone
set_option linter.unusedVariables false
set_option linter.unusedSimpArgs false

/-! ### monikerref4_Kids: function 36 -/
mutual
def monikerref4_Kids.j0 : Nat → Int → Bool → List (S47) → Option (List Int × Bool)
  | 0, _, _, _ => none
  | k + 1, x1, x17, x224000 => if x17 = true then (some (([] : List Int), false)) else (if 0 ≤ x1 then (if x1 < (x224000.length : Int) then (if ((rd_T47 x224000 x1).f3) < 1 then (monikerref4_Kids.j1 k x1 ((rd_T47 x224000 x1).f3) true x224000) else (monikerref4_Kids.j1 k x1 ((rd_T47 x224000 x1).f3) (decide (((rd_T47 x224000 x1).f3) > (wrap64 ((x224000.length : Int) - x1)))) x224000)) else (none)) else (none))
def monikerref4_Kids.j1 : Nat → Int → Int → Bool → List (S47) → Option (List Int × Bool)
  | 0, _, _, _, _ => none
  | k + 1, x1, x6, x34, x224000 => if x34 = true then (some (([] : List Int), false)) else (monikerref4_Kids.l0 k x1 x6 ([] : List Int) (wrap64 (x1 + 1)) x224000)
def monikerref4_Kids.l0 : Nat → Int → Int → List Int → Int → List (S47) → Option (List Int × Bool)
  | 0, _, _, _, _, _ => none
  | k + 1, x1, x6, x7, x8, x224000 => if x8 < (wrap64 (x1 + x6)) then (if x7.length < 17592186044416 then (if 0 ≤ x8 then (if x8 < (x224000.length : Int) then (if ((rd_T47 x224000 x8).f3) < 1 then (some (([] : List Int), false)) else (if ((rd_T47 x224000 x8).f3) > (wrap64 ((wrap64 (x1 + x6)) - x8)) then (some (([] : List Int), false)) else (monikerref4_Kids.l0 k x1 x6 (x7 ++ [x8]) (wrap64 (x8 + ((rd_T47 x224000 x8).f3))) x224000))) else (none)) else (none)) else (none)) else (some (x7, true))
end
def monikerref4_Kids.f (k : Nat) (l0_0 : List (S47)) (a1 : Int) : Option (List Int × Bool) := if a1 < 0 then (monikerref4_Kids.j0 k a1 true l0_0) else (monikerref4_Kids.j0 k a1 (decide (a1 ≥ (l0_0.length : Int))) l0_0)
set_option maxHeartbeats 8000000 in
set_option maxRecDepth 100000 in
theorem monikerref4_Kids.calls (k : Nat) (A0_0 : Option Addr) (c0_0 : Nat) (l0_0 : List (S47)) (a1 : Int) (r1 : List Int) (r2 : Bool) (w : World) (hr0_0 : Kd.C k47 w A0_0 l0_0.length l0_0) (hc0_0 : l0_0.length ≤ c0_0) (h : monikerref4_Kids.f k l0_0 a1 = some (r1, r2)) :
    Calls Try.prog 36 #[.agg #[.slice A0_0 l0_0.length c0_0], .int .i64 a1] w fun e w' => ∃ v0_ : Value, e = .returned (.tuple #[v0_, .bool r2]) ∧ Kd.R (Kd.int .i64) 3 w' w.heap.size (fun _ => True) v0_ r1 ∧ Below w.heap.size w w' := by
  have hu25 := Try.underlying25
  have HR0_0 := Aside0.mk hr0_0
  have HC0_0 := Aside0.mk hc0_0
  clear hr0_0 hc0_0
  have HB := Aside0.mk (Below.refl w.heap.size w)
  have H : (if a1 < 0 then (monikerref4_Kids.j0 k a1 true l0_0) else (monikerref4_Kids.j0 k a1 (decide (a1 ≥ (l0_0.length : Int))) l0_0)) = some (r1, r2) := h
  clear h
  have HC3 := Aside0.mk H
  clear H
  go_enter Try.func36, Try.ntmps36
  go_upto_region 1 with (first | ((with_reducible refine gate_dst (N := 2) rfl ?_); (try (refine gate_guard (by rfl) ?_; dsimp only)); refine box_event ?hg (N := 2) ?hd (cs := #[.slice A0_0 l0_0.length c0_0]) (t := 25) ?hr ?_; (case hd => rfl); (case hg => rfl); (case hr => first | (go_simp; done) | (go_simp; rfl)); intro gb223 hg w4 hbox hb; have n0_ := Aside0.mk (below_step (by repeat (first | (with_reducible first | exact HB.out | apply below_alloc | apply pw_below_drewN | apply below_drew1) | exact HB.out)) hb); have n1_ := Aside0.mk (hbox); have n2_ := Aside0.mk ((by rw [hg]; exact (below_size (by repeat (first | (with_reducible first | exact HB.out | apply below_alloc | apply pw_below_drewN | apply below_drew1) | exact HB.out))) : w.heap.size ≤ gb223)); have n3_ := Aside0.mk ((by rw [hg]; exact (below_size (by repeat (first | (with_reducible first | exact HB.out | apply below_alloc | apply pw_below_drewN | apply below_drew1) | exact HB.out))) : w.heap.size ≤ gb223)); clear HB; have HB := n0_; have BK223 := n1_; have GW223 := n2_; have GE223 := n3_; clear n0_ n1_ n2_ n3_; clear hb hbox hg))
  (try simp only [Act.put, List.setIfInBounds_toArray, List.set_cons_zero, List.set_cons_succ])
  go_cut [17] (fun v17 wc => ∃ (kq : Nat) (x17_2 : Bool), v17 = .bool x17_2 ∧ Aside0 (monikerref4_Kids.j0 kq a1 x17_2 l0_0 = some (r1, r2)) ∧ Aside0 (kq ≤ k) ∧ Aside0 (wc.heap[gb223]? = some (.cells #[(.slice A0_0 l0_0.length c0_0)] 25 (0, 0))) ∧ Aside0 (Below w.heap.size w wc))
  case first =>
    have H := HC3.out
    clear HC3
    by_cases c5 : a1 < 0
    · rw [if_pos c5] at H
      have c5b0 : decide (a1 < 0) = true := decide_eq_true c5
      clear c5
      (first | rw [c5b0] | (simp only [i64_w, i32_w]; rw [c5b0]) | skip)
      have H' := Aside0.mk H
      clear H
      go_wp2
      go_meet
      case rel => exact ⟨_, (true), (by first | rfl | (simp; done) | (simp [*]; done)), H', ⟨by first | omega | exact Nat.le_refl _⟩, ⟨by (with_reducible repeat (first | refine blk_drewN ?_ _ | refine blk_drew ?_ | refine blk_alloc ?_ _)); exact BK223.out⟩, ⟨by repeat (first | (with_reducible first | exact HB.out | apply below_alloc | apply pw_below_drewN | apply below_drew1 | refine below_set ?_ GE223.out) | exact HB.out)⟩⟩
    · rw [if_neg c5] at H
      have c5b0 : decide (a1 < 0) = false := decide_eq_false c5
      clear c5
      (first | rw [c5b0] | (simp only [i64_w, i32_w]; rw [c5b0]) | skip)
      have H' := Aside0.mk H
      clear H
      have hcz6_0 : w4.cell? ⟨gb223, 0, none⟩ = some (.slice A0_0 l0_0.length c0_0) := (blk_cell BK223.out 0).trans rfl
      have hfz6_0 := blk_frozen BK223.out 0
      go_wp2
      go_meet
      case rel => exact ⟨_, (decide (a1 ≥ (l0_0.length : Int))), (by first | rfl | (simp; done) | (simp [*]; done)), H', ⟨by first | omega | exact Nat.le_refl _⟩, ⟨by (with_reducible repeat (first | refine blk_drewN ?_ _ | refine blk_drew ?_ | refine blk_alloc ?_ _)); exact BK223.out⟩, ⟨by repeat (first | (with_reducible first | exact HB.out | apply below_alloc | apply pw_below_drewN | apply below_drew1 | refine below_set ?_ GE223.out) | exact HB.out)⟩⟩
  case rest =>
    clear HC3
    try clear p2
    try clear c3
    try clear c5
    try clear c5b0
    try clear hcz6_0
    try clear hfz6_0
    obtain ⟨kq, x17_2, rfl, HA, HJ2, BK223, HB⟩ := hcut
    cases kq with
    | zero => exact absurd HA.out (by simp [monikerref4_Kids.j0])
    | succ kj2 =>
      have H := HA.out
      clear HA
      simp only [monikerref4_Kids.j0] at H
      by_cases c7 : x17_2 = true
      · subst c7
        have H1 : (some (([] : List Int), false)) = some (r1, r2) := by rw [if_pos rfl] at H; exact H
        clear H
        have H := H1
        clear H1
        simp only [Option.some.injEq, Prod.mk.injEq] at H
        obtain ⟨rfl, rfl⟩ := H
        go_wp2
        go_ret2
        exact ⟨_, by first | rfl | (simp [errW_none, errW_some] <;> rfl) | (simp [*, errW_none, errW_some] <;> rfl), by first | exact Kd.R_nil _ _ _ _ _ | exact Kd.N_nil _ _ _ _ _ | exact Kd.V_nil _ _ _ _ _ | exact Kd.Q_nil _ _ _ _ _ | exact Kd.S_nil _ _ _ _ _, by repeat (first | (with_reducible first | exact HB.out | apply below_alloc | apply pw_below_drewN | apply below_drew1 | refine below_set ?_ GE223.out) | exact HB.out)⟩
      · replace c7 := Bool.eq_false_iff.mpr c7
        subst c7
        have H1 : (if 0 ≤ a1 then (if a1 < (l0_0.length : Int) then (if ((rd_T47 l0_0 a1).f3) < 1 then (monikerref4_Kids.j1 kj2 a1 ((rd_T47 l0_0 a1).f3) true l0_0) else (monikerref4_Kids.j1 kj2 a1 ((rd_T47 l0_0 a1).f3) (decide (((rd_T47 l0_0 a1).f3) > (wrap64 ((l0_0.length : Int) - a1)))) l0_0)) else (none)) else (none)) = some (r1, r2) := by rw [if_neg (show ¬ (false = true) by decide)] at H; exact H
        clear H
        have H := H1
        clear H1
        by_cases c8 : 0 ≤ a1
        · rw [if_pos c8] at H
          have c8b0 : decide (0 ≤ a1) = true := decide_eq_true c8
          clear c8
          by_cases c9 : a1 < (l0_0.length : Int)
          · rw [if_pos c9] at H
            have c9b0 : decide (a1 < (l0_0.length : Int)) = true := decide_eq_true c9
            clear c9
            have HC10 := Aside0.mk H
            clear H
            have hcz11_0 : wc.cell? ⟨gb223, 0, none⟩ = some (.slice A0_0 l0_0.length c0_0) := (blk_cell BK223.out 0).trans rfl
            have hfz11_0 := blk_frozen BK223.out 0
            have p224 : 0 ≤ (a1 : Int) := of_decide_eq_true (by first | (with_reducible assumption) | assumption)
            have q224 : a1 < (l0_0.length : Int) := of_decide_eq_true (by first | (with_reducible assumption) | assumption)
            obtain ⟨ad224, e224, hx224_0, hx224_1, hx224_2, hx224_3⟩ := at_T47 HR0_0.out a1 p224 q224
            cases e224
            replace hx224_0 := (HB.out.cell (World.block_lt_of_cell? w _ hx224_0)).trans hx224_0
            replace hx224_1 := (HB.out.cell (World.block_lt_of_cell? w _ hx224_1)).trans hx224_1
            replace hx224_2 := (HB.out.cell (World.block_lt_of_cell? w _ hx224_2)).trans hx224_2
            replace hx224_3 := (HB.out.cell (World.block_lt_of_cell? w _ hx224_3)).trans hx224_3
            replace p224 := eq_true p224
            replace q224 := eq_true q224
            go_upto_region 4 with (fail)
            go_cut [34] (fun v34 wc => ∃ (kq : Nat) (x34_9 : Bool), v34 = .bool x34_9 ∧ Aside0 (monikerref4_Kids.j1 kq a1 ((rd_T47 l0_0 a1).f3) x34_9 l0_0 = some (r1, r2)) ∧ Aside0 (kq ≤ kj2) ∧ Aside0 (wc.heap[gb223]? = some (.cells #[(.slice (some ad224) l0_0.length c0_0)] 25 (0, 0))) ∧ Aside0 (Below w.heap.size w wc))
            case first =>
              have H := HC10.out
              clear HC10
              by_cases c12 : ((rd_T47 l0_0 a1).f3) < 1
              · rw [if_pos c12] at H
                have c12b0 : decide (((rd_T47 l0_0 a1).f3) < 1) = true := decide_eq_true c12
                clear c12
                (first | rw [c12b0] | (simp only [i64_w, i32_w]; rw [c12b0]) | skip)
                have H' := Aside0.mk H
                clear H
                go_wp2
                go_meet
                case rel => exact ⟨_, (true), (by first | rfl | (simp; done) | (simp [*]; done)), H', ⟨by have := HJ2.out; first | omega | exact Nat.le_refl _⟩, ⟨by (with_reducible repeat (first | refine blk_drewN ?_ _ | refine blk_drew ?_ | refine blk_alloc ?_ _)); exact BK223.out⟩, ⟨by repeat (first | (with_reducible first | exact HB.out | apply below_alloc | apply pw_below_drewN | apply below_drew1 | refine below_set ?_ GE223.out) | exact HB.out)⟩⟩
              · rw [if_neg c12] at H
                have c12b0 : decide (((rd_T47 l0_0 a1).f3) < 1) = false := decide_eq_false c12
                clear c12
                (first | rw [c12b0] | (simp only [i64_w, i32_w]; rw [c12b0]) | skip)
                have H' := Aside0.mk H
                clear H
                have hcz13_0 : wc.cell? ⟨gb223, 0, none⟩ = some (.slice (some ad224) l0_0.length c0_0) := (blk_cell BK223.out 0).trans rfl
                have hfz13_0 := blk_frozen BK223.out 0
                go_wp2
                go_meet
                case rel => exact ⟨_, (decide (((rd_T47 l0_0 a1).f3) > (wrap64 ((l0_0.length : Int) - a1)))), (by first | rfl | (simp; done) | (simp [*]; done)), H', ⟨by have := HJ2.out; first | omega | exact Nat.le_refl _⟩, ⟨by (with_reducible repeat (first | refine blk_drewN ?_ _ | refine blk_drew ?_ | refine blk_alloc ?_ _)); exact BK223.out⟩, ⟨by repeat (first | (with_reducible first | exact HB.out | apply below_alloc | apply pw_below_drewN | apply below_drew1 | refine below_set ?_ GE223.out) | exact HB.out)⟩⟩
            case rest =>
              clear HC10
              try clear c1
              try clear p2
              try clear q2
              try clear hx2
              try clear c3
              try clear c5
              try clear c5b0
              try clear p6
              try clear c7
              try clear c8
              try clear c8b0
              try clear c9
              try clear c9b0
              try clear c12
              try clear c12b0
              try clear hcz11_0
              try clear hcz13_0
              try clear hcz6_0
              try clear hfz11_0
              try clear hfz13_0
              try clear hfz6_0
              try clear hx224_0
              try clear hx224_1
              try clear hx224_2
              try clear hx224_3
              try clear p2
              try clear p224
              try clear q224
              obtain ⟨kq, x34_9, rfl, HA, HJ9, BK223, HB⟩ := hcut
              cases kq with
              | zero => exact absurd HA.out (by simp [monikerref4_Kids.j1])
              | succ kj9 =>
                have H := HA.out
                clear HA
                simp only [monikerref4_Kids.j1] at H
                by_cases c14 : x34_9 = true
                · subst c14
                  have H1 : (some (([] : List Int), false)) = some (r1, r2) := by rw [if_pos rfl] at H; exact H
                  clear H
                  have H := H1
                  clear H1
                  simp only [Option.some.injEq, Prod.mk.injEq] at H
                  obtain ⟨rfl, rfl⟩ := H
                  go_wp2
                  go_ret2
                  exact ⟨_, by first | rfl | (simp [errW_none, errW_some] <;> rfl) | (simp [*, errW_none, errW_some] <;> rfl), by first | exact Kd.R_nil _ _ _ _ _ | exact Kd.N_nil _ _ _ _ _ | exact Kd.V_nil _ _ _ _ _ | exact Kd.Q_nil _ _ _ _ _ | exact Kd.S_nil _ _ _ _ _, by repeat (first | (with_reducible first | exact HB.out | apply below_alloc | apply pw_below_drewN | apply below_drew1 | refine below_set ?_ GE223.out) | exact HB.out)⟩
                · replace c14 := Bool.eq_false_iff.mpr c14
                  subst c14
                  have H1 : (monikerref4_Kids.l0 kj9 a1 ((rd_T47 l0_0 a1).f3) ([] : List Int) (wrap64 (a1 + 1)) l0_0) = some (r1, r2) := by rw [if_neg (show ¬ (false = true) by decide)] at H; exact H
                  clear H
                  have H := H1
                  clear H1
                  have H' := Aside0.mk H
                  clear H
                  go_wp2
                  go_loopg [7, 8] kj9 (fun kq v7 v8 w' => ∃ (x7_3 : List Int) (x8_3 : Int), v8 = .int .i64 x8_3 ∧ Aside0 (monikerref4_Kids.l0 kq a1 ((rd_T47 l0_0 a1).f3) x7_3 x8_3 l0_0 = some (r1, r2)) ∧ Aside0 (kq ≤ kj9) ∧ Aside0 (Kd.R (Kd.int .i64) 3 w' w.heap.size (fun _ => True) v7 x7_3) ∧ Aside0 (w'.heap[gb223]? = some (.cells #[(.slice (some ad224) l0_0.length c0_0)] 25 (0, 0))) ∧ Aside0 (Below w.heap.size w w'))
                  case atStart => exact ⟨(([] : List Int)), (wrap64 (a1 + 1)), (by first | rfl | (simp; done) | (simp [*]; done)), H', ⟨Nat.le_refl _⟩, ⟨by first | exact Kd.R_nil _ _ _ _ _ | exact Kd.N_nil _ _ _ _ _ | exact Kd.V_nil _ _ _ _ _ | exact Kd.Q_nil _ _ _ _ _ | exact Kd.S_nil _ _ _ _ _⟩, ⟨by (with_reducible repeat (first | refine blk_drewN ?_ _ | refine blk_drew ?_ | refine blk_alloc ?_ _)); exact BK223.out⟩, ⟨by repeat (first | (with_reducible first | exact HB.out | apply below_alloc | apply pw_below_drewN | apply below_drew1 | refine below_set ?_ GE223.out) | exact HB.out)⟩⟩
                  case round =>
                    clear H'
                    try clear c1
                    try clear p2
                    try clear q2
                    try clear hx2
                    try clear c3
                    try clear c5
                    try clear c5b0
                    try clear p6
                    try clear c7
                    try clear c8
                    try clear c8b0
                    try clear c9
                    try clear c9b0
                    try clear c12
                    try clear c12b0
                    try clear c14
                    try clear hcz11_0
                    try clear hcz13_0
                    try clear hcz6_0
                    try clear hfz11_0
                    try clear hfz13_0
                    try clear hfz6_0
                    try clear hx224_0
                    try clear hx224_1
                    try clear hx224_2
                    try clear hx224_3
                    try clear p2
                    try clear p224
                    try clear p6
                    try clear q2
                    try clear q224
                    obtain ⟨x7_3, x8_3, rfl, HA, HK3, HO_7, BK223, HB⟩ := hrel
                    cases gk with
                    | zero => exact absurd HA.out (by simp [monikerref4_Kids.l0])
                    | succ k3 =>
                      have H := HA.out
                      clear HA
                      simp only [monikerref4_Kids.l0] at H
                      by_cases c15 : x8_3 < (wrap64 (a1 + ((rd_T47 l0_0 a1).f3)))
                      · rw [if_pos c15] at H
                        have c15b0 : decide (x8_3 < (wrap64 (a1 + ((rd_T47 l0_0 a1).f3)))) = true := decide_eq_true c15
                        clear c15
                        by_cases c16 : x7_3.length < 17592186044416
                        · rw [if_pos c16] at H
                          have LMc16 := Aside0.mk c16
                          clear c16
                          obtain ⟨y225, hy225⟩ : ∃ y_ : List Int, y_ = (x7_3 ++ [x8_3]) := ⟨_, rfl⟩
                          replace H : (if 0 ≤ x8_3 then (if x8_3 < (l0_0.length : Int) then (if ((rd_T47 l0_0 x8_3).f3) < 1 then (some (([] : List Int), false)) else (if ((rd_T47 l0_0 x8_3).f3) > (wrap64 ((wrap64 (a1 + ((rd_T47 l0_0 a1).f3))) - x8_3)) then (some (([] : List Int), false)) else (monikerref4_Kids.l0 k3 a1 ((rd_T47 l0_0 a1).f3) y225 (wrap64 (x8_3 + ((rd_T47 l0_0 x8_3).f3))) l0_0))) else (none)) else (none)) = some (r1, r2) := by first | (rw [hy225]; with_reducible exact H) | (have H2_ := (Option.bind_some _ _).symm.trans H; rw [hy225]; with_reducible exact H2_) | (have H2_ := (Option.bind_some _ _).symm.trans H; with_reducible exact H2_) | with_reducible exact H | (rw [hy225]; exact H) | exact H
                          have Ny225 := Aside0.mk hy225
                          clear hy225
                          by_cases c17 : 0 ≤ x8_3
                          · rw [if_pos c17] at H
                            have c17b0 : decide (0 ≤ x8_3) = true := decide_eq_true c17
                            clear c17
                            by_cases c18 : x8_3 < (l0_0.length : Int)
                            · rw [if_pos c18] at H
                              have c18b0 : decide (x8_3 < (l0_0.length : Int)) = true := decide_eq_true c18
                              clear c18
                              by_cases c19 : ((rd_T47 l0_0 x8_3).f3) < 1
                              · rw [if_pos c19] at H
                                have c19b0 : decide (((rd_T47 l0_0 x8_3).f3) < 1) = true := decide_eq_true c19
                                clear c19
                                simp only [Option.some.injEq, Prod.mk.injEq] at H
                                obtain ⟨rfl, rfl⟩ := H
                                go_wp2_with (first | ((with_reducible refine gate_builtin (b := .append) (xs := #[.tmp 42, .tmp 44]) rfl ?_); (try (refine gate_guard (by rfl) ?_; dsimp only)); at_builtin; refine Kd.R_append (Kd.int .i64) (w0 := w) w.heap.size rfl (.tmp 42) (.tmp 44) 33 3 (.int .i64 0) 8 rfl Try.underlying33 info3 rfl (by decide) (by omega) u7 x7_3 x8_3 [.int .i64 x8_3] (fun _ => True) (fun _ => False) rfl rfl ?aP (fun _ hk => hk.elim) ?aF ?aO ?aB ?aS ?aL ?_; (case aP => exact rfl); (case aB => exact (by repeat (first | (with_reducible first | exact HB.out | apply below_alloc | apply pw_below_drewN | apply below_drew1 | refine below_set ?_ GE223.out) | exact HB.out))); (case aF => exact (fun _ _ => trivial)); (case aO => exact (by (with_reducible repeat (first | apply Kd.R_alloc | apply Kd.R_drewN | apply Kd.R_drew)); exact HO_7.out)); (case aS => exact (below_size (by repeat (first | (with_reducible first | exact HB.out | apply below_alloc | apply pw_below_drewN | apply below_drew1 | refine below_set ?_ GE223.out) | exact HB.out)))); (case aL => have := LMc16.out; omega); intro v226 w20 ho hb hg hat; rw [← Ny225.out] at ho; have n0_ := Aside0.mk (blk_grown (g := gb223) (o := .cells #[.slice (some ad224) l0_0.length c0_0] 25 (0, 0)) (by (with_reducible repeat (first | refine blk_drewN ?_ _ | refine blk_drew ?_ | refine blk_alloc ?_ _)); exact BK223.out) hg (Kd.R_ne HO_7.out BK223.out (by decide))); have n1_ := Aside0.mk (hb); have n2_ := Aside0.mk (ho); clear BK223; clear HB; clear HO_7; have BK223 := n0_; have HB := n1_; have HO227 := n2_; clear n0_ n1_ n2_; clear ho hb hg hat; have hcz21_0 : w20.cell? ⟨gb223, 0, none⟩ = some (.slice (some ad224) l0_0.length c0_0) := (blk_cell BK223.out 0).trans rfl; have hfz21_0 := blk_frozen BK223.out 0; have p228 : 0 ≤ (x8_3 : Int) := of_decide_eq_true (by first | (with_reducible assumption) | assumption); have q228 : x8_3 < (l0_0.length : Int) := of_decide_eq_true (by first | (with_reducible assumption) | assumption); obtain ⟨ad228, e228, hx228_0, hx228_1, hx228_2, hx228_3⟩ := at_T47 HR0_0.out x8_3 p228 q228; obtain rfl : ad224 = ad228 := (by injection e228); replace hx228_0 := (HB.out.cell (World.block_lt_of_cell? w _ hx228_0)).trans hx228_0; replace hx228_1 := (HB.out.cell (World.block_lt_of_cell? w _ hx228_1)).trans hx228_1; replace hx228_2 := (HB.out.cell (World.block_lt_of_cell? w _ hx228_2)).trans hx228_2; replace hx228_3 := (HB.out.cell (World.block_lt_of_cell? w _ hx228_3)).trans hx228_3; replace p228 := eq_true p228; replace q228 := eq_true q228))
                                go_ret2
                                exact ⟨_, by first | rfl | (simp [errW_none, errW_some] <;> rfl) | (simp [*, errW_none, errW_some] <;> rfl), by first | exact Kd.R_nil _ _ _ _ _ | exact Kd.N_nil _ _ _ _ _ | exact Kd.V_nil _ _ _ _ _ | exact Kd.Q_nil _ _ _ _ _ | exact Kd.S_nil _ _ _ _ _, by repeat (first | (with_reducible first | exact HB.out | apply below_alloc | apply pw_below_drewN | apply below_drew1 | refine below_set ?_ GE223.out) | exact HB.out)⟩
                              · rw [if_neg c19] at H
                                have c19b0 : decide (((rd_T47 l0_0 x8_3).f3) < 1) = false := decide_eq_false c19
                                clear c19
                                by_cases c22 : ((rd_T47 l0_0 x8_3).f3) > (wrap64 ((wrap64 (a1 + ((rd_T47 l0_0 a1).f3))) - x8_3))
                                · rw [if_pos c22] at H
                                  have c22b0 : decide ((wrap64 ((wrap64 (a1 + ((rd_T47 l0_0 a1).f3))) - x8_3)) < ((rd_T47 l0_0 x8_3).f3)) = true := decide_eq_true c22
                                  clear c22
                                  simp only [Option.some.injEq, Prod.mk.injEq] at H
                                  obtain ⟨rfl, rfl⟩ := H
                                  go_wp2_with (first | ((with_reducible refine gate_builtin (b := .append) (xs := #[.tmp 42, .tmp 44]) rfl ?_); (try (refine gate_guard (by rfl) ?_; dsimp only)); at_builtin; refine Kd.R_append (Kd.int .i64) (w0 := w) w.heap.size rfl (.tmp 42) (.tmp 44) 33 3 (.int .i64 0) 8 rfl Try.underlying33 info3 rfl (by decide) (by omega) u7 x7_3 x8_3 [.int .i64 x8_3] (fun _ => True) (fun _ => False) rfl rfl ?aP (fun _ hk => hk.elim) ?aF ?aO ?aB ?aS ?aL ?_; (case aP => exact rfl); (case aB => exact (by repeat (first | (with_reducible first | exact HB.out | apply below_alloc | apply pw_below_drewN | apply below_drew1 | refine below_set ?_ GE223.out) | exact HB.out))); (case aF => exact (fun _ _ => trivial)); (case aO => exact (by (with_reducible repeat (first | apply Kd.R_alloc | apply Kd.R_drewN | apply Kd.R_drew)); exact HO_7.out)); (case aS => exact (below_size (by repeat (first | (with_reducible first | exact HB.out | apply below_alloc | apply pw_below_drewN | apply below_drew1 | refine below_set ?_ GE223.out) | exact HB.out)))); (case aL => have := LMc16.out; omega); intro v226 w23 ho hb hg hat; rw [← Ny225.out] at ho; have n0_ := Aside0.mk (blk_grown (g := gb223) (o := .cells #[.slice (some ad224) l0_0.length c0_0] 25 (0, 0)) (by (with_reducible repeat (first | refine blk_drewN ?_ _ | refine blk_drew ?_ | refine blk_alloc ?_ _)); exact BK223.out) hg (Kd.R_ne HO_7.out BK223.out (by decide))); have n1_ := Aside0.mk (hb); have n2_ := Aside0.mk (ho); clear BK223; clear HB; clear HO_7; have BK223 := n0_; have HB := n1_; have HO227 := n2_; clear n0_ n1_ n2_; clear ho hb hg hat; have hcz24_0 : w23.cell? ⟨gb223, 0, none⟩ = some (.slice (some ad224) l0_0.length c0_0) := (blk_cell BK223.out 0).trans rfl; have hfz24_0 := blk_frozen BK223.out 0; have p228 : 0 ≤ (x8_3 : Int) := of_decide_eq_true (by first | (with_reducible assumption) | assumption); have q228 : x8_3 < (l0_0.length : Int) := of_decide_eq_true (by first | (with_reducible assumption) | assumption); obtain ⟨ad228, e228, hx228_0, hx228_1, hx228_2, hx228_3⟩ := at_T47 HR0_0.out x8_3 p228 q228; obtain rfl : ad224 = ad228 := (by injection e228); replace hx228_0 := (HB.out.cell (World.block_lt_of_cell? w _ hx228_0)).trans hx228_0; replace hx228_1 := (HB.out.cell (World.block_lt_of_cell? w _ hx228_1)).trans hx228_1; replace hx228_2 := (HB.out.cell (World.block_lt_of_cell? w _ hx228_2)).trans hx228_2; replace hx228_3 := (HB.out.cell (World.block_lt_of_cell? w _ hx228_3)).trans hx228_3; replace p228 := eq_true p228; replace q228 := eq_true q228; have p229 : 0 ≤ (x8_3 : Int) := of_decide_eq_true (by first | (with_reducible assumption) | assumption); have q229 : x8_3 < (l0_0.length : Int) := of_decide_eq_true (by first | (with_reducible assumption) | assumption); obtain ⟨ad229, e229, hx229_0, hx229_1, hx229_2, hx229_3⟩ := at_T47 HR0_0.out x8_3 p229 q229; obtain rfl : ad224 = ad229 := (by injection e229); replace hx229_0 := (HB.out.cell (World.block_lt_of_cell? w _ hx229_0)).trans hx229_0; replace hx229_1 := (HB.out.cell (World.block_lt_of_cell? w _ hx229_1)).trans hx229_1; replace hx229_2 := (HB.out.cell (World.block_lt_of_cell? w _ hx229_2)).trans hx229_2; replace hx229_3 := (HB.out.cell (World.block_lt_of_cell? w _ hx229_3)).trans hx229_3; replace p229 := eq_true p229; replace q229 := eq_true q229))
                                  go_ret2
                                  exact ⟨_, by first | rfl | (simp [errW_none, errW_some] <;> rfl) | (simp [*, errW_none, errW_some] <;> rfl), by first | exact Kd.R_nil _ _ _ _ _ | exact Kd.N_nil _ _ _ _ _ | exact Kd.V_nil _ _ _ _ _ | exact Kd.Q_nil _ _ _ _ _ | exact Kd.S_nil _ _ _ _ _, by repeat (first | (with_reducible first | exact HB.out | apply below_alloc | apply pw_below_drewN | apply below_drew1 | refine below_set ?_ GE223.out) | exact HB.out)⟩
                                · rw [if_neg c22] at H
                                  have c22b0 : decide ((wrap64 ((wrap64 (a1 + ((rd_T47 l0_0 a1).f3))) - x8_3)) < ((rd_T47 l0_0 x8_3).f3)) = false := decide_eq_false c22
                                  clear c22
                                  have H' := Aside0.mk H
                                  clear H
                                  go_wp2_with (first | ((with_reducible refine gate_builtin (b := .append) (xs := #[.tmp 42, .tmp 44]) rfl ?_); (try (refine gate_guard (by rfl) ?_; dsimp only)); at_builtin; refine Kd.R_append (Kd.int .i64) (w0 := w) w.heap.size rfl (.tmp 42) (.tmp 44) 33 3 (.int .i64 0) 8 rfl Try.underlying33 info3 rfl (by decide) (by omega) u7 x7_3 x8_3 [.int .i64 x8_3] (fun _ => True) (fun _ => False) rfl rfl ?aP (fun _ hk => hk.elim) ?aF ?aO ?aB ?aS ?aL ?_; (case aP => exact rfl); (case aB => exact (by repeat (first | (with_reducible first | exact HB.out | apply below_alloc | apply pw_below_drewN | apply below_drew1 | refine below_set ?_ GE223.out) | exact HB.out))); (case aF => exact (fun _ _ => trivial)); (case aO => exact (by (with_reducible repeat (first | apply Kd.R_alloc | apply Kd.R_drewN | apply Kd.R_drew)); exact HO_7.out)); (case aS => exact (below_size (by repeat (first | (with_reducible first | exact HB.out | apply below_alloc | apply pw_below_drewN | apply below_drew1 | refine below_set ?_ GE223.out) | exact HB.out)))); (case aL => have := LMc16.out; omega); intro v226 w25 ho hb hg hat; rw [← Ny225.out] at ho; have n0_ := Aside0.mk (blk_grown (g := gb223) (o := .cells #[.slice (some ad224) l0_0.length c0_0] 25 (0, 0)) (by (with_reducible repeat (first | refine blk_drewN ?_ _ | refine blk_drew ?_ | refine blk_alloc ?_ _)); exact BK223.out) hg (Kd.R_ne HO_7.out BK223.out (by decide))); have n1_ := Aside0.mk (hb); have n2_ := Aside0.mk (ho); clear BK223; clear HB; clear HO_7; have BK223 := n0_; have HB := n1_; have HO227 := n2_; clear n0_ n1_ n2_; clear ho hb hg hat; have hcz26_0 : w25.cell? ⟨gb223, 0, none⟩ = some (.slice (some ad224) l0_0.length c0_0) := (blk_cell BK223.out 0).trans rfl; have hfz26_0 := blk_frozen BK223.out 0; have p228 : 0 ≤ (x8_3 : Int) := of_decide_eq_true (by first | (with_reducible assumption) | assumption); have q228 : x8_3 < (l0_0.length : Int) := of_decide_eq_true (by first | (with_reducible assumption) | assumption); obtain ⟨ad228, e228, hx228_0, hx228_1, hx228_2, hx228_3⟩ := at_T47 HR0_0.out x8_3 p228 q228; obtain rfl : ad224 = ad228 := (by injection e228); replace hx228_0 := (HB.out.cell (World.block_lt_of_cell? w _ hx228_0)).trans hx228_0; replace hx228_1 := (HB.out.cell (World.block_lt_of_cell? w _ hx228_1)).trans hx228_1; replace hx228_2 := (HB.out.cell (World.block_lt_of_cell? w _ hx228_2)).trans hx228_2; replace hx228_3 := (HB.out.cell (World.block_lt_of_cell? w _ hx228_3)).trans hx228_3; replace p228 := eq_true p228; replace q228 := eq_true q228; have p229 : 0 ≤ (x8_3 : Int) := of_decide_eq_true (by first | (with_reducible assumption) | assumption); have q229 : x8_3 < (l0_0.length : Int) := of_decide_eq_true (by first | (with_reducible assumption) | assumption); obtain ⟨ad229, e229, hx229_0, hx229_1, hx229_2, hx229_3⟩ := at_T47 HR0_0.out x8_3 p229 q229; obtain rfl : ad224 = ad229 := (by injection e229); replace hx229_0 := (HB.out.cell (World.block_lt_of_cell? w _ hx229_0)).trans hx229_0; replace hx229_1 := (HB.out.cell (World.block_lt_of_cell? w _ hx229_1)).trans hx229_1; replace hx229_2 := (HB.out.cell (World.block_lt_of_cell? w _ hx229_2)).trans hx229_2; replace hx229_3 := (HB.out.cell (World.block_lt_of_cell? w _ hx229_3)).trans hx229_3; replace p229 := eq_true p229; replace q229 := eq_true q229; have p230 : 0 ≤ (x8_3 : Int) := of_decide_eq_true (by first | (with_reducible assumption) | assumption); have q230 : x8_3 < (l0_0.length : Int) := of_decide_eq_true (by first | (with_reducible assumption) | assumption); obtain ⟨ad230, e230, hx230_0, hx230_1, hx230_2, hx230_3⟩ := at_T47 HR0_0.out x8_3 p230 q230; obtain rfl : ad224 = ad230 := (by injection e230); replace hx230_0 := (HB.out.cell (World.block_lt_of_cell? w _ hx230_0)).trans hx230_0; replace hx230_1 := (HB.out.cell (World.block_lt_of_cell? w _ hx230_1)).trans hx230_1; replace hx230_2 := (HB.out.cell (World.block_lt_of_cell? w _ hx230_2)).trans hx230_2; replace hx230_3 := (HB.out.cell (World.block_lt_of_cell? w _ hx230_3)).trans hx230_3; replace p230 := eq_true p230; replace q230 := eq_true q230))
                                  go_roundg k3
                                  case measure => have := HJ2.out; have := HJ9.out; have := HK3.out; omega
                                  case rel => exact ⟨(y225), (wrap64 (x8_3 + ((rd_T47 l0_0 x8_3).f3))), (by first | rfl | (simp; done) | (simp [*]; done)), H', ⟨by have := HJ2.out; have := HJ9.out; have := HK3.out; omega⟩, ⟨by (with_reducible repeat (first | apply Kd.R_alloc | apply Kd.R_drewN | apply Kd.R_drew)); exact HO227.out⟩, ⟨by (with_reducible repeat (first | refine blk_drewN ?_ _ | refine blk_drew ?_ | refine blk_alloc ?_ _)); exact BK223.out⟩, ⟨by repeat (first | (with_reducible first | exact HB.out | apply below_alloc | apply pw_below_drewN | apply below_drew1 | refine below_set ?_ GE223.out) | exact HB.out)⟩⟩
                            · rw [if_neg c18] at H
                              exact absurd H (by simp)
                          · rw [if_neg c17] at H
                            exact absurd H (by simp)
                        · rw [if_neg c16] at H
                          exact absurd H (by simp)
                      · rw [if_neg c15] at H
                        have c15b0 : decide (x8_3 < (wrap64 (a1 + ((rd_T47 l0_0 a1).f3)))) = false := decide_eq_false c15
                        clear c15
                        simp only [Option.some.injEq, Prod.mk.injEq] at H
                        obtain ⟨rfl, rfl⟩ := H
                        go_wp2
                        go_ret2
                        exact ⟨_, by first | rfl | (simp [errW_none, errW_some] <;> rfl) | (simp [*, errW_none, errW_some] <;> rfl), by (with_reducible repeat (first | apply Kd.R_alloc | apply Kd.R_drewN | apply Kd.R_drew)); exact HO_7.out, by repeat (first | (with_reducible first | exact HB.out | apply below_alloc | apply pw_below_drewN | apply below_drew1 | refine below_set ?_ GE223.out) | exact HB.out)⟩
          · rw [if_neg c9] at H
            exact absurd H (by simp)
        · rw [if_neg c8] at H
          exact absurd H (by simp)

end Go.Proofs.Ytodldpdnhcafpaa.F
