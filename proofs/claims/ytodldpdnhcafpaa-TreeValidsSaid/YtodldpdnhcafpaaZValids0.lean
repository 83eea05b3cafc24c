/- Texts of the proof of one law (Valids), part 0: functions printed as Lean functions with their walks, and what is proved of them. Conditions: those of each theorem. -/
import Derived.Test.YtodldpdnhcafpaaProg
import Derived.Below
import Derived.Deep.Draws
import Derived.Deep.AppendLies
import Derived.Maps.AppendAt
import Derived.OwnWalk
import Derived.Laws.BytesArg
import Derived.Laws.MakeOwn
import Derived.Laws.OwnMore
import Derived.Deep.OwnRows
import Derived.Tactics
import Derived.Lib.ConvBytes
import Derived.Laws.Slices
import Derived.WalkKit
import Derived.KernelRfl
import Derived.RowKit3
import Derived.Deep.LoopGhost
import Derived.Deep.QuietTactic
import Derived.BigQuiet
import Derived.WideLaws
import Derived.Deep.DeepCutAuto
import Derived.Deep.CutBlock
import Derived.Deep.RegionHeld3
import Derived.Laws.Rows
import Derived.Lib.AppendStr
import Derived.ArgAppend
import Derived.Laws.IdiomCopy
import Derived.OrdersHeld
import Derived.Laws.BitsLemmas
import Derived.WalkMore
import Derived.RowKit
import Derived.Test.YtodldpdnhcafpaaWWords
import Derived.Test.YtodldpdnhcafpaaWLast
import Derived.Test.YtodldpdnhcafpaaWTab
import Derived.Test.YtodldpdnhcafpaaWFour
import Derived.Test.YtodldpdnhcafpaaWQPut
import Derived.Test.YtodldpdnhcafpaaWApart
import Derived.Test.YtodldpdnhcafpaaWArr
import Derived.Test.YtodldpdnhcafpaaWZeros
import Derived.Test.YtodldpdnhcafpaaWFoot
import Derived.Test.YtodldpdnhcafpaaWKept
import Derived.Test.YtodldpdnhcafpaaWShare
import Derived.Test.YtodldpdnhcafpaaWN
import Derived.Test.YtodldpdnhcafpaaWFootNe
import Derived.Test.YtodldpdnhcafpaaWAt
import Derived.Test.YtodldpdnhcafpaaWEqStruct
import Derived.Test.YtodldpdnhcafpaaWRepsOne
import Derived.Test.YtodldpdnhcafpaaWInv
import Derived.Test.YtodldpdnhcafpaaWInvWords
import Derived.Test.YtodldpdnhcafpaaWGuard
import Derived.Test.YtodldpdnhcafpaaWNEv
import Derived.Test.YtodldpdnhcafpaaWMore
-- A text of this session's own program (wip/myprint.sh over a changed print tool): functions and their walks
namespace Go.Proofs.Ytodldpdnhcafpaa.F
open Go.RowKit Go.Proofs.YtodldpdnhcafpaaW.PrintWords Go.Proofs.YtodldpdnhcafpaaW.PrintLast Go.Proofs.YtodldpdnhcafpaaW.PrintMore
attribute [local go_sem] max2_int min2_int max_two min_two max_three min_three max_four min_four   -- for this text's walks alone
set_option linter.unusedVariables false
set_option linter.unusedSimpArgs false



def errW : Option Int → Value
  | none => .nilIface
  | some c => .iface 0 (.int .i64 c)
theorem errW_none : errW none = .nilIface := rfl
theorem errW_some (c : Int) : errW (some c) = .iface 0 (.int .i64 c) := rfl

theorem info3 : (Try.prog.info? 3).map (fun i => (i.zero, i.size, i.bytes)) = some (some (.int .i64 0), 1, 8) := by kernel_rfl
theorem info47 : (Try.prog.info? 47).map (fun i => (i.zero, i.size, i.bytes)) = some (some (.agg #[(.int .u8 0), (.int .i64 0), (.int .i64 0), (.int .i64 0)]), 4, 32) := by kernel_rfl
theorem info61 : (Try.prog.info? 61).map (fun i => (i.zero, i.size, i.bytes)) = some (some (.agg #[(.int .u8 0), (.int .i64 0), (.int .i64 0)]), 3, 24) := by kernel_rfl
-- the values' own types
/-! #### struct type 61 -/
structure S61 where
  f0 : Int
  f1 : Int
  f2 : Int
def z61 : S61 := ⟨(0 : Int), (0 : Int), (0 : Int)⟩
def k61 : Kd S61 := Kd.iso (Kd.pair (Kd.int .u8) (Kd.pair (Kd.int .i64) (Kd.int .i64))) (fun x : S61 => (x.f0, x.f1, x.f2))
theorem k61_open {w : World} {x : S61} {cs : List Value} (h : k61.K w x cs) : cs = [.int .u8 x.f0, .int .i64 x.f1, .int .i64 x.f2] := by
  obtain ⟨_, _, rfl, rfl, ⟨_, _, rfl, rfl, rfl⟩⟩ := h
  exact rfl
theorem k61_mk (w : World) (x : S61)  : k61.K w x [.int .u8 x.f0, .int .i64 x.f1, .int .i64 x.f2] := ⟨[.int .u8 x.f0], [.int .i64 x.f1, .int .i64 x.f2], rfl, rfl, ⟨[.int .i64 x.f1], [.int .i64 x.f2], rfl, rfl, rfl⟩⟩
def rd_T61 (xs : List S61) (i : Int) : S61 := xs.getD i.toNat z61
theorem at_T61 {w : World} {A : Option Addr} {n : Nat} {xs : List S61} (h : Kd.C k61 w A n xs) (i : Int) (h0 : 0 ≤ i) (h1 : i < n) : ∃ ad , A = some ad ∧ w.cell? (ad.add (i.toNat * 3)) = some (.int .u8 (rd_T61 xs i).f0) ∧ w.cell? ⟨(ad.add (i.toNat * 3)).block, (ad.add (i.toNat * 3)).off + 1, none⟩ = some (.int .i64 (rd_T61 xs i).f1) ∧ w.cell? ⟨(ad.add (i.toNat * 3)).block, (ad.add (i.toNat * 3)).off + 2, none⟩ = some (.int .i64 (rd_T61 xs i).f2) := by
  obtain ⟨ad, c, e, _, hK, hc0⟩ := Kd.C_get h z61 i h0 h1
  have hc : ∀ j u, c[j]? = some u → w.cell? (ad.add (i.toNat * 3 + j)) = some u := hc0
  obtain rfl := k61_open hK
  exact ⟨ad, e, hc 0 _ rfl, by rw [← add_field _ _ 1 (by omega)]; exact hc 1 _ rfl, by rw [← add_field _ _ 2 (by omega)]; exact hc 2 _ rfl⟩

/-! #### struct type 47 -/
structure S47 where
  f0 : Int
  f1 : Int
  f2 : Int
  f3 : Int
def z47 : S47 := ⟨(0 : Int), (0 : Int), (0 : Int), (0 : Int)⟩
def k47 : Kd S47 := Kd.iso (Kd.pair (Kd.int .u8) (Kd.pair (Kd.int .i64) (Kd.pair (Kd.int .i64) (Kd.int .i64)))) (fun x : S47 => (x.f0, x.f1, x.f2, x.f3))
theorem k47_open {w : World} {x : S47} {cs : List Value} (h : k47.K w x cs) : cs = [.int .u8 x.f0, .int .i64 x.f1, .int .i64 x.f2, .int .i64 x.f3] := by
  obtain ⟨_, _, rfl, rfl, ⟨_, _, rfl, rfl, ⟨_, _, rfl, rfl, rfl⟩⟩⟩ := h
  exact rfl
theorem k47_mk (w : World) (x : S47)  : k47.K w x [.int .u8 x.f0, .int .i64 x.f1, .int .i64 x.f2, .int .i64 x.f3] := ⟨[.int .u8 x.f0], [.int .i64 x.f1, .int .i64 x.f2, .int .i64 x.f3], rfl, rfl, ⟨[.int .i64 x.f1], [.int .i64 x.f2, .int .i64 x.f3], rfl, rfl, ⟨[.int .i64 x.f2], [.int .i64 x.f3], rfl, rfl, rfl⟩⟩⟩
def rd_T47 (xs : List S47) (i : Int) : S47 := xs.getD i.toNat z47
theorem at_T47 {w : World} {A : Option Addr} {n : Nat} {xs : List S47} (h : Kd.C k47 w A n xs) (i : Int) (h0 : 0 ≤ i) (h1 : i < n) : ∃ ad , A = some ad ∧ w.cell? (ad.add (i.toNat * 4)) = some (.int .u8 (rd_T47 xs i).f0) ∧ w.cell? ⟨(ad.add (i.toNat * 4)).block, (ad.add (i.toNat * 4)).off + 1, none⟩ = some (.int .i64 (rd_T47 xs i).f1) ∧ w.cell? ⟨(ad.add (i.toNat * 4)).block, (ad.add (i.toNat * 4)).off + 2, none⟩ = some (.int .i64 (rd_T47 xs i).f2) ∧ w.cell? ⟨(ad.add (i.toNat * 4)).block, (ad.add (i.toNat * 4)).off + 3, none⟩ = some (.int .i64 (rd_T47 xs i).f3) := by
  obtain ⟨ad, c, e, _, hK, hc0⟩ := Kd.C_get h z47 i h0 h1
  have hc : ∀ j u, c[j]? = some u → w.cell? (ad.add (i.toNat * 4 + j)) = some u := hc0
  obtain rfl := k47_open hK
  exact ⟨ad, e, hc 0 _ rfl, by rw [← add_field _ _ 1 (by omega)]; exact hc 1 _ rfl, by rw [← add_field _ _ 2 (by omega)]; exact hc 2 _ rfl, by rw [← add_field _ _ 3 (by omega)]; exact hc 3 _ rfl⟩

end Go.Proofs.Ytodldpdnhcafpaa.F

-- A text of this session's own program (wip/myprint.sh over a changed print tool): functions and their walks
namespace Go.Proofs.Ytodldpdnhcafpaa.F
open Go.RowKit Go.Proofs.YtodldpdnhcafpaaW.PrintWords Go.Proofs.YtodldpdnhcafpaaW.PrintLast Go.Proofs.YtodldpdnhcafpaaW.PrintMore
attribute [local go_sem] max2_int min2_int max_two min_two max_three min_three max_four min_four   -- for this text's walks alone
set_option linter.unusedVariables false
set_option linter.unusedSimpArgs false

/-! ### tree_sized: function 51 -/
def tree_sized.f (l0_0 : List (S47)) (a1 : Int) : Option (Bool) := if a1 ≥ 0 then (if a1 < (l0_0.length : Int) then (if 0 ≤ a1 then (if ((rd_T47 l0_0 a1).f3) ≥ 1 then (some (decide (((rd_T47 l0_0 a1).f3) ≤ (wrap64 ((l0_0.length : Int) - a1))))) else (some false)) else (none)) else (some false)) else (some false)
set_option maxHeartbeats 8000000 in
set_option maxRecDepth 100000 in
theorem tree_sized.calls (A0_0 : Option Addr) (c0_0 : Nat) (l0_0 : List (S47)) (a1 : Int) (r : Bool) (w : World) (hr0_0 : Kd.C k47 w A0_0 l0_0.length l0_0) (hc0_0 : l0_0.length ≤ c0_0) (h : tree_sized.f l0_0 a1 = some r) :
    Calls Try.prog 51 #[.agg #[.slice A0_0 l0_0.length c0_0], .int .i64 a1] w fun e w' => e = .returned (.bool r) ∧ Below w.heap.size w w' := by
  have hu25 := Try.underlying25
  have HR0_0 := Aside0.mk hr0_0
  have HC0_0 := Aside0.mk hc0_0
  clear hr0_0 hc0_0
  have HB := Aside0.mk (Below.refl w.heap.size w)
  have H : (if a1 ≥ 0 then (if a1 < (l0_0.length : Int) then (if 0 ≤ a1 then (if ((rd_T47 l0_0 a1).f3) ≥ 1 then (some (decide (((rd_T47 l0_0 a1).f3) ≤ (wrap64 ((l0_0.length : Int) - a1))))) else (some false)) else (none)) else (some false)) else (some false)) = some r := h
  clear h
  by_cases c3 : a1 ≥ 0
  · rw [if_pos c3] at H
    have c3b0 : decide (0 ≤ a1) = true := decide_eq_true c3
    clear c3
    by_cases c4 : a1 < (l0_0.length : Int)
    · rw [if_pos c4] at H
      have c4b0 : decide (a1 < (l0_0.length : Int)) = true := decide_eq_true c4
      clear c4
      by_cases c5 : 0 ≤ a1
      · rw [if_pos c5] at H
        have c5b0 : decide (0 ≤ a1) = true := decide_eq_true c5
        clear c5
        by_cases c6 : ((rd_T47 l0_0 a1).f3) ≥ 1
        · rw [if_pos c6] at H
          have c6b0 : decide (1 ≤ ((rd_T47 l0_0 a1).f3)) = true := decide_eq_true c6
          clear c6
          obtain rfl := Option.some.inj H
          go_enter Try.func51, Try.ntmps51
          go_wp2_with (first | ((with_reducible refine gate_dst (N := 2) rfl ?_); (try (refine gate_guard (by rfl) ?_; dsimp only)); refine box_event ?hg (N := 2) ?hd (cs := #[.slice A0_0 l0_0.length c0_0]) (t := 25) ?hr ?_; (case hd => rfl); (case hg => rfl); (case hr => first | (go_simp; done) | (go_simp; rfl)); intro gb219 hg w7 hbox hb; have n0_ := Aside0.mk (below_step (by repeat (first | (with_reducible first | exact HB.out | apply below_alloc | apply pw_below_drewN | apply below_drew1) | exact HB.out)) hb); have n1_ := Aside0.mk (hbox); have n2_ := Aside0.mk ((by rw [hg]; exact (below_size (by repeat (first | (with_reducible first | exact HB.out | apply below_alloc | apply pw_below_drewN | apply below_drew1) | exact HB.out))) : w.heap.size ≤ gb219)); have n3_ := Aside0.mk ((by rw [hg]; exact (below_size (by repeat (first | (with_reducible first | exact HB.out | apply below_alloc | apply pw_below_drewN | apply below_drew1) | exact HB.out))) : w.heap.size ≤ gb219)); clear HB; have HB := n0_; have BK219 := n1_; have GW219 := n2_; have GE219 := n3_; clear n0_ n1_ n2_ n3_; clear hb hbox hg; have hcz8_0 : w7.cell? ⟨gb219, 0, none⟩ = some (.slice A0_0 l0_0.length c0_0) := (blk_cell BK219.out 0).trans rfl; have hfz8_0 := blk_frozen BK219.out 0; have p220 : 0 ≤ (a1 : Int) := of_decide_eq_true (by first | (with_reducible assumption) | assumption); have q220 : a1 < (l0_0.length : Int) := of_decide_eq_true (by first | (with_reducible assumption) | assumption); obtain ⟨ad220, e220, hx220_0, hx220_1, hx220_2, hx220_3⟩ := at_T47 HR0_0.out a1 p220 q220; cases e220; replace hx220_0 := (HB.out.cell (World.block_lt_of_cell? w _ hx220_0)).trans hx220_0; replace hx220_1 := (HB.out.cell (World.block_lt_of_cell? w _ hx220_1)).trans hx220_1; replace hx220_2 := (HB.out.cell (World.block_lt_of_cell? w _ hx220_2)).trans hx220_2; replace hx220_3 := (HB.out.cell (World.block_lt_of_cell? w _ hx220_3)).trans hx220_3; replace p220 := eq_true p220; replace q220 := eq_true q220; have p221 : 0 ≤ (a1 : Int) := of_decide_eq_true (by first | (with_reducible assumption) | assumption); have q221 : a1 < (l0_0.length : Int) := of_decide_eq_true (by first | (with_reducible assumption) | assumption); obtain ⟨ad221, e221, hx221_0, hx221_1, hx221_2, hx221_3⟩ := at_T47 HR0_0.out a1 p221 q221; obtain rfl : ad220 = ad221 := (by injection e221); replace hx221_0 := (HB.out.cell (World.block_lt_of_cell? w _ hx221_0)).trans hx221_0; replace hx221_1 := (HB.out.cell (World.block_lt_of_cell? w _ hx221_1)).trans hx221_1; replace hx221_2 := (HB.out.cell (World.block_lt_of_cell? w _ hx221_2)).trans hx221_2; replace hx221_3 := (HB.out.cell (World.block_lt_of_cell? w _ hx221_3)).trans hx221_3; replace p221 := eq_true p221; replace q221 := eq_true q221))
          repeat (go_quiet (first | ((with_reducible refine gate_dst (N := 2) rfl ?_); (try (refine gate_guard (by rfl) ?_; dsimp only)); refine box_event ?hg (N := 2) ?hd (cs := #[.slice A0_0 l0_0.length c0_0]) (t := 25) ?hr ?_; (case hd => rfl); (case hg => rfl); (case hr => first | (go_simp; done) | (go_simp; rfl)); intro gb219 hg w7 hbox hb; have n0_ := Aside0.mk (below_step (by repeat (first | (with_reducible first | exact HB.out | apply below_alloc | apply pw_below_drewN | apply below_drew1) | exact HB.out)) hb); have n1_ := Aside0.mk (hbox); have n2_ := Aside0.mk ((by rw [hg]; exact (below_size (by repeat (first | (with_reducible first | exact HB.out | apply below_alloc | apply pw_below_drewN | apply below_drew1) | exact HB.out))) : w.heap.size ≤ gb219)); have n3_ := Aside0.mk ((by rw [hg]; exact (below_size (by repeat (first | (with_reducible first | exact HB.out | apply below_alloc | apply pw_below_drewN | apply below_drew1) | exact HB.out))) : w.heap.size ≤ gb219)); clear HB; have HB := n0_; have BK219 := n1_; have GW219 := n2_; have GE219 := n3_; clear n0_ n1_ n2_ n3_; clear hb hbox hg; have hcz8_0 : w7.cell? ⟨gb219, 0, none⟩ = some (.slice A0_0 l0_0.length c0_0) := (blk_cell BK219.out 0).trans rfl; have hfz8_0 := blk_frozen BK219.out 0; have p220 : 0 ≤ (a1 : Int) := of_decide_eq_true (by first | (with_reducible assumption) | assumption); have q220 : a1 < (l0_0.length : Int) := of_decide_eq_true (by first | (with_reducible assumption) | assumption); obtain ⟨ad220, e220, hx220_0, hx220_1, hx220_2, hx220_3⟩ := at_T47 HR0_0.out a1 p220 q220; cases e220; replace hx220_0 := (HB.out.cell (World.block_lt_of_cell? w _ hx220_0)).trans hx220_0; replace hx220_1 := (HB.out.cell (World.block_lt_of_cell? w _ hx220_1)).trans hx220_1; replace hx220_2 := (HB.out.cell (World.block_lt_of_cell? w _ hx220_2)).trans hx220_2; replace hx220_3 := (HB.out.cell (World.block_lt_of_cell? w _ hx220_3)).trans hx220_3; replace p220 := eq_true p220; replace q220 := eq_true q220; have p221 : 0 ≤ (a1 : Int) := of_decide_eq_true (by first | (with_reducible assumption) | assumption); have q221 : a1 < (l0_0.length : Int) := of_decide_eq_true (by first | (with_reducible assumption) | assumption); obtain ⟨ad221, e221, hx221_0, hx221_1, hx221_2, hx221_3⟩ := at_T47 HR0_0.out a1 p221 q221; obtain rfl : ad220 = ad221 := (by injection e221); replace hx221_0 := (HB.out.cell (World.block_lt_of_cell? w _ hx221_0)).trans hx221_0; replace hx221_1 := (HB.out.cell (World.block_lt_of_cell? w _ hx221_1)).trans hx221_1; replace hx221_2 := (HB.out.cell (World.block_lt_of_cell? w _ hx221_2)).trans hx221_2; replace hx221_3 := (HB.out.cell (World.block_lt_of_cell? w _ hx221_3)).trans hx221_3; replace p221 := eq_true p221; replace q221 := eq_true q221)); try go_wp2_with (first | ((with_reducible refine gate_dst (N := 2) rfl ?_); (try (refine gate_guard (by rfl) ?_; dsimp only)); refine box_event ?hg (N := 2) ?hd (cs := #[.slice A0_0 l0_0.length c0_0]) (t := 25) ?hr ?_; (case hd => rfl); (case hg => rfl); (case hr => first | (go_simp; done) | (go_simp; rfl)); intro gb219 hg w7 hbox hb; have n0_ := Aside0.mk (below_step (by repeat (first | (with_reducible first | exact HB.out | apply below_alloc | apply pw_below_drewN | apply below_drew1) | exact HB.out)) hb); have n1_ := Aside0.mk (hbox); have n2_ := Aside0.mk ((by rw [hg]; exact (below_size (by repeat (first | (with_reducible first | exact HB.out | apply below_alloc | apply pw_below_drewN | apply below_drew1) | exact HB.out))) : w.heap.size ≤ gb219)); have n3_ := Aside0.mk ((by rw [hg]; exact (below_size (by repeat (first | (with_reducible first | exact HB.out | apply below_alloc | apply pw_below_drewN | apply below_drew1) | exact HB.out))) : w.heap.size ≤ gb219)); clear HB; have HB := n0_; have BK219 := n1_; have GW219 := n2_; have GE219 := n3_; clear n0_ n1_ n2_ n3_; clear hb hbox hg; have hcz8_0 : w7.cell? ⟨gb219, 0, none⟩ = some (.slice A0_0 l0_0.length c0_0) := (blk_cell BK219.out 0).trans rfl; have hfz8_0 := blk_frozen BK219.out 0; have p220 : 0 ≤ (a1 : Int) := of_decide_eq_true (by first | (with_reducible assumption) | assumption); have q220 : a1 < (l0_0.length : Int) := of_decide_eq_true (by first | (with_reducible assumption) | assumption); obtain ⟨ad220, e220, hx220_0, hx220_1, hx220_2, hx220_3⟩ := at_T47 HR0_0.out a1 p220 q220; cases e220; replace hx220_0 := (HB.out.cell (World.block_lt_of_cell? w _ hx220_0)).trans hx220_0; replace hx220_1 := (HB.out.cell (World.block_lt_of_cell? w _ hx220_1)).trans hx220_1; replace hx220_2 := (HB.out.cell (World.block_lt_of_cell? w _ hx220_2)).trans hx220_2; replace hx220_3 := (HB.out.cell (World.block_lt_of_cell? w _ hx220_3)).trans hx220_3; replace p220 := eq_true p220; replace q220 := eq_true q220; have p221 : 0 ≤ (a1 : Int) := of_decide_eq_true (by first | (with_reducible assumption) | assumption); have q221 : a1 < (l0_0.length : Int) := of_decide_eq_true (by first | (with_reducible assumption) | assumption); obtain ⟨ad221, e221, hx221_0, hx221_1, hx221_2, hx221_3⟩ := at_T47 HR0_0.out a1 p221 q221; obtain rfl : ad220 = ad221 := (by injection e221); replace hx221_0 := (HB.out.cell (World.block_lt_of_cell? w _ hx221_0)).trans hx221_0; replace hx221_1 := (HB.out.cell (World.block_lt_of_cell? w _ hx221_1)).trans hx221_1; replace hx221_2 := (HB.out.cell (World.block_lt_of_cell? w _ hx221_2)).trans hx221_2; replace hx221_3 := (HB.out.cell (World.block_lt_of_cell? w _ hx221_3)).trans hx221_3; replace p221 := eq_true p221; replace q221 := eq_true q221)))
          go_ret
          exact ⟨by first | rfl | (simp [errW_none, errW_some] <;> rfl) | (simp [*, errW_none, errW_some] <;> rfl), by repeat (first | (with_reducible first | exact HB.out | apply below_alloc | apply pw_below_drewN | apply below_drew1 | refine below_set ?_ GE219.out) | exact HB.out)⟩
        · rw [if_neg c6] at H
          have c6b0 : decide (1 ≤ ((rd_T47 l0_0 a1).f3)) = false := decide_eq_false c6
          clear c6
          obtain rfl := Option.some.inj H
          go_enter Try.func51, Try.ntmps51
          go_wp2_with (first | ((with_reducible refine gate_dst (N := 2) rfl ?_); (try (refine gate_guard (by rfl) ?_; dsimp only)); refine box_event ?hg (N := 2) ?hd (cs := #[.slice A0_0 l0_0.length c0_0]) (t := 25) ?hr ?_; (case hd => rfl); (case hg => rfl); (case hr => first | (go_simp; done) | (go_simp; rfl)); intro gb219 hg w9 hbox hb; have n0_ := Aside0.mk (below_step (by repeat (first | (with_reducible first | exact HB.out | apply below_alloc | apply pw_below_drewN | apply below_drew1) | exact HB.out)) hb); have n1_ := Aside0.mk (hbox); have n2_ := Aside0.mk ((by rw [hg]; exact (below_size (by repeat (first | (with_reducible first | exact HB.out | apply below_alloc | apply pw_below_drewN | apply below_drew1) | exact HB.out))) : w.heap.size ≤ gb219)); have n3_ := Aside0.mk ((by rw [hg]; exact (below_size (by repeat (first | (with_reducible first | exact HB.out | apply below_alloc | apply pw_below_drewN | apply below_drew1) | exact HB.out))) : w.heap.size ≤ gb219)); clear HB; have HB := n0_; have BK219 := n1_; have GW219 := n2_; have GE219 := n3_; clear n0_ n1_ n2_ n3_; clear hb hbox hg; have hcz10_0 : w9.cell? ⟨gb219, 0, none⟩ = some (.slice A0_0 l0_0.length c0_0) := (blk_cell BK219.out 0).trans rfl; have hfz10_0 := blk_frozen BK219.out 0; have p220 : 0 ≤ (a1 : Int) := of_decide_eq_true (by first | (with_reducible assumption) | assumption); have q220 : a1 < (l0_0.length : Int) := of_decide_eq_true (by first | (with_reducible assumption) | assumption); obtain ⟨ad220, e220, hx220_0, hx220_1, hx220_2, hx220_3⟩ := at_T47 HR0_0.out a1 p220 q220; cases e220; replace hx220_0 := (HB.out.cell (World.block_lt_of_cell? w _ hx220_0)).trans hx220_0; replace hx220_1 := (HB.out.cell (World.block_lt_of_cell? w _ hx220_1)).trans hx220_1; replace hx220_2 := (HB.out.cell (World.block_lt_of_cell? w _ hx220_2)).trans hx220_2; replace hx220_3 := (HB.out.cell (World.block_lt_of_cell? w _ hx220_3)).trans hx220_3; replace p220 := eq_true p220; replace q220 := eq_true q220))
          repeat (go_quiet (first | ((with_reducible refine gate_dst (N := 2) rfl ?_); (try (refine gate_guard (by rfl) ?_; dsimp only)); refine box_event ?hg (N := 2) ?hd (cs := #[.slice A0_0 l0_0.length c0_0]) (t := 25) ?hr ?_; (case hd => rfl); (case hg => rfl); (case hr => first | (go_simp; done) | (go_simp; rfl)); intro gb219 hg w9 hbox hb; have n0_ := Aside0.mk (below_step (by repeat (first | (with_reducible first | exact HB.out | apply below_alloc | apply pw_below_drewN | apply below_drew1) | exact HB.out)) hb); have n1_ := Aside0.mk (hbox); have n2_ := Aside0.mk ((by rw [hg]; exact (below_size (by repeat (first | (with_reducible first | exact HB.out | apply below_alloc | apply pw_below_drewN | apply below_drew1) | exact HB.out))) : w.heap.size ≤ gb219)); have n3_ := Aside0.mk ((by rw [hg]; exact (below_size (by repeat (first | (with_reducible first | exact HB.out | apply below_alloc | apply pw_below_drewN | apply below_drew1) | exact HB.out))) : w.heap.size ≤ gb219)); clear HB; have HB := n0_; have BK219 := n1_; have GW219 := n2_; have GE219 := n3_; clear n0_ n1_ n2_ n3_; clear hb hbox hg; have hcz10_0 : w9.cell? ⟨gb219, 0, none⟩ = some (.slice A0_0 l0_0.length c0_0) := (blk_cell BK219.out 0).trans rfl; have hfz10_0 := blk_frozen BK219.out 0; have p220 : 0 ≤ (a1 : Int) := of_decide_eq_true (by first | (with_reducible assumption) | assumption); have q220 : a1 < (l0_0.length : Int) := of_decide_eq_true (by first | (with_reducible assumption) | assumption); obtain ⟨ad220, e220, hx220_0, hx220_1, hx220_2, hx220_3⟩ := at_T47 HR0_0.out a1 p220 q220; cases e220; replace hx220_0 := (HB.out.cell (World.block_lt_of_cell? w _ hx220_0)).trans hx220_0; replace hx220_1 := (HB.out.cell (World.block_lt_of_cell? w _ hx220_1)).trans hx220_1; replace hx220_2 := (HB.out.cell (World.block_lt_of_cell? w _ hx220_2)).trans hx220_2; replace hx220_3 := (HB.out.cell (World.block_lt_of_cell? w _ hx220_3)).trans hx220_3; replace p220 := eq_true p220; replace q220 := eq_true q220)); try go_wp2_with (first | ((with_reducible refine gate_dst (N := 2) rfl ?_); (try (refine gate_guard (by rfl) ?_; dsimp only)); refine box_event ?hg (N := 2) ?hd (cs := #[.slice A0_0 l0_0.length c0_0]) (t := 25) ?hr ?_; (case hd => rfl); (case hg => rfl); (case hr => first | (go_simp; done) | (go_simp; rfl)); intro gb219 hg w9 hbox hb; have n0_ := Aside0.mk (below_step (by repeat (first | (with_reducible first | exact HB.out | apply below_alloc | apply pw_below_drewN | apply below_drew1) | exact HB.out)) hb); have n1_ := Aside0.mk (hbox); have n2_ := Aside0.mk ((by rw [hg]; exact (below_size (by repeat (first | (with_reducible first | exact HB.out | apply below_alloc | apply pw_below_drewN | apply below_drew1) | exact HB.out))) : w.heap.size ≤ gb219)); have n3_ := Aside0.mk ((by rw [hg]; exact (below_size (by repeat (first | (with_reducible first | exact HB.out | apply below_alloc | apply pw_below_drewN | apply below_drew1) | exact HB.out))) : w.heap.size ≤ gb219)); clear HB; have HB := n0_; have BK219 := n1_; have GW219 := n2_; have GE219 := n3_; clear n0_ n1_ n2_ n3_; clear hb hbox hg; have hcz10_0 : w9.cell? ⟨gb219, 0, none⟩ = some (.slice A0_0 l0_0.length c0_0) := (blk_cell BK219.out 0).trans rfl; have hfz10_0 := blk_frozen BK219.out 0; have p220 : 0 ≤ (a1 : Int) := of_decide_eq_true (by first | (with_reducible assumption) | assumption); have q220 : a1 < (l0_0.length : Int) := of_decide_eq_true (by first | (with_reducible assumption) | assumption); obtain ⟨ad220, e220, hx220_0, hx220_1, hx220_2, hx220_3⟩ := at_T47 HR0_0.out a1 p220 q220; cases e220; replace hx220_0 := (HB.out.cell (World.block_lt_of_cell? w _ hx220_0)).trans hx220_0; replace hx220_1 := (HB.out.cell (World.block_lt_of_cell? w _ hx220_1)).trans hx220_1; replace hx220_2 := (HB.out.cell (World.block_lt_of_cell? w _ hx220_2)).trans hx220_2; replace hx220_3 := (HB.out.cell (World.block_lt_of_cell? w _ hx220_3)).trans hx220_3; replace p220 := eq_true p220; replace q220 := eq_true q220)))
          go_ret
          exact ⟨by first | rfl | (simp [errW_none, errW_some] <;> rfl) | (simp [*, errW_none, errW_some] <;> rfl), by repeat (first | (with_reducible first | exact HB.out | apply below_alloc | apply pw_below_drewN | apply below_drew1 | refine below_set ?_ GE219.out) | exact HB.out)⟩
      · rw [if_neg c5] at H
        exact absurd H (by simp)
    · rw [if_neg c4] at H
      have c4b0 : decide (a1 < (l0_0.length : Int)) = false := decide_eq_false c4
      clear c4
      obtain rfl := Option.some.inj H
      go_enter Try.func51, Try.ntmps51
      go_wp2_with (first | ((with_reducible refine gate_dst (N := 2) rfl ?_); (try (refine gate_guard (by rfl) ?_; dsimp only)); refine box_event ?hg (N := 2) ?hd (cs := #[.slice A0_0 l0_0.length c0_0]) (t := 25) ?hr ?_; (case hd => rfl); (case hg => rfl); (case hr => first | (go_simp; done) | (go_simp; rfl)); intro gb219 hg w11 hbox hb; have n0_ := Aside0.mk (below_step (by repeat (first | (with_reducible first | exact HB.out | apply below_alloc | apply pw_below_drewN | apply below_drew1) | exact HB.out)) hb); have n1_ := Aside0.mk (hbox); have n2_ := Aside0.mk ((by rw [hg]; exact (below_size (by repeat (first | (with_reducible first | exact HB.out | apply below_alloc | apply pw_below_drewN | apply below_drew1) | exact HB.out))) : w.heap.size ≤ gb219)); have n3_ := Aside0.mk ((by rw [hg]; exact (below_size (by repeat (first | (with_reducible first | exact HB.out | apply below_alloc | apply pw_below_drewN | apply below_drew1) | exact HB.out))) : w.heap.size ≤ gb219)); clear HB; have HB := n0_; have BK219 := n1_; have GW219 := n2_; have GE219 := n3_; clear n0_ n1_ n2_ n3_; clear hb hbox hg; have hcz12_0 : w11.cell? ⟨gb219, 0, none⟩ = some (.slice A0_0 l0_0.length c0_0) := (blk_cell BK219.out 0).trans rfl; have hfz12_0 := blk_frozen BK219.out 0))
      repeat (go_quiet (first | ((with_reducible refine gate_dst (N := 2) rfl ?_); (try (refine gate_guard (by rfl) ?_; dsimp only)); refine box_event ?hg (N := 2) ?hd (cs := #[.slice A0_0 l0_0.length c0_0]) (t := 25) ?hr ?_; (case hd => rfl); (case hg => rfl); (case hr => first | (go_simp; done) | (go_simp; rfl)); intro gb219 hg w11 hbox hb; have n0_ := Aside0.mk (below_step (by repeat (first | (with_reducible first | exact HB.out | apply below_alloc | apply pw_below_drewN | apply below_drew1) | exact HB.out)) hb); have n1_ := Aside0.mk (hbox); have n2_ := Aside0.mk ((by rw [hg]; exact (below_size (by repeat (first | (with_reducible first | exact HB.out | apply below_alloc | apply pw_below_drewN | apply below_drew1) | exact HB.out))) : w.heap.size ≤ gb219)); have n3_ := Aside0.mk ((by rw [hg]; exact (below_size (by repeat (first | (with_reducible first | exact HB.out | apply below_alloc | apply pw_below_drewN | apply below_drew1) | exact HB.out))) : w.heap.size ≤ gb219)); clear HB; have HB := n0_; have BK219 := n1_; have GW219 := n2_; have GE219 := n3_; clear n0_ n1_ n2_ n3_; clear hb hbox hg; have hcz12_0 : w11.cell? ⟨gb219, 0, none⟩ = some (.slice A0_0 l0_0.length c0_0) := (blk_cell BK219.out 0).trans rfl; have hfz12_0 := blk_frozen BK219.out 0)); try go_wp2_with (first | ((with_reducible refine gate_dst (N := 2) rfl ?_); (try (refine gate_guard (by rfl) ?_; dsimp only)); refine box_event ?hg (N := 2) ?hd (cs := #[.slice A0_0 l0_0.length c0_0]) (t := 25) ?hr ?_; (case hd => rfl); (case hg => rfl); (case hr => first | (go_simp; done) | (go_simp; rfl)); intro gb219 hg w11 hbox hb; have n0_ := Aside0.mk (below_step (by repeat (first | (with_reducible first | exact HB.out | apply below_alloc | apply pw_below_drewN | apply below_drew1) | exact HB.out)) hb); have n1_ := Aside0.mk (hbox); have n2_ := Aside0.mk ((by rw [hg]; exact (below_size (by repeat (first | (with_reducible first | exact HB.out | apply below_alloc | apply pw_below_drewN | apply below_drew1) | exact HB.out))) : w.heap.size ≤ gb219)); have n3_ := Aside0.mk ((by rw [hg]; exact (below_size (by repeat (first | (with_reducible first | exact HB.out | apply below_alloc | apply pw_below_drewN | apply below_drew1) | exact HB.out))) : w.heap.size ≤ gb219)); clear HB; have HB := n0_; have BK219 := n1_; have GW219 := n2_; have GE219 := n3_; clear n0_ n1_ n2_ n3_; clear hb hbox hg; have hcz12_0 : w11.cell? ⟨gb219, 0, none⟩ = some (.slice A0_0 l0_0.length c0_0) := (blk_cell BK219.out 0).trans rfl; have hfz12_0 := blk_frozen BK219.out 0)))
      go_ret
      exact ⟨by first | rfl | (simp [errW_none, errW_some] <;> rfl) | (simp [*, errW_none, errW_some] <;> rfl), by repeat (first | (with_reducible first | exact HB.out | apply below_alloc | apply pw_below_drewN | apply below_drew1 | refine below_set ?_ GE219.out) | exact HB.out)⟩
  · rw [if_neg c3] at H
    have c3b0 : decide (0 ≤ a1) = false := decide_eq_false c3
    clear c3
    obtain rfl := Option.some.inj H
    go_enter Try.func51, Try.ntmps51
    go_wp2_with (first | ((with_reducible refine gate_dst (N := 2) rfl ?_); (try (refine gate_guard (by rfl) ?_; dsimp only)); refine box_event ?hg (N := 2) ?hd (cs := #[.slice A0_0 l0_0.length c0_0]) (t := 25) ?hr ?_; (case hd => rfl); (case hg => rfl); (case hr => first | (go_simp; done) | (go_simp; rfl)); intro gb219 hg w13 hbox hb; have n0_ := Aside0.mk (below_step (by repeat (first | (with_reducible first | exact HB.out | apply below_alloc | apply pw_below_drewN | apply below_drew1) | exact HB.out)) hb); have n1_ := Aside0.mk (hbox); have n2_ := Aside0.mk ((by rw [hg]; exact (below_size (by repeat (first | (with_reducible first | exact HB.out | apply below_alloc | apply pw_below_drewN | apply below_drew1) | exact HB.out))) : w.heap.size ≤ gb219)); have n3_ := Aside0.mk ((by rw [hg]; exact (below_size (by repeat (first | (with_reducible first | exact HB.out | apply below_alloc | apply pw_below_drewN | apply below_drew1) | exact HB.out))) : w.heap.size ≤ gb219)); clear HB; have HB := n0_; have BK219 := n1_; have GW219 := n2_; have GE219 := n3_; clear n0_ n1_ n2_ n3_; clear hb hbox hg))
    repeat (go_quiet (first | ((with_reducible refine gate_dst (N := 2) rfl ?_); (try (refine gate_guard (by rfl) ?_; dsimp only)); refine box_event ?hg (N := 2) ?hd (cs := #[.slice A0_0 l0_0.length c0_0]) (t := 25) ?hr ?_; (case hd => rfl); (case hg => rfl); (case hr => first | (go_simp; done) | (go_simp; rfl)); intro gb219 hg w13 hbox hb; have n0_ := Aside0.mk (below_step (by repeat (first | (with_reducible first | exact HB.out | apply below_alloc | apply pw_below_drewN | apply below_drew1) | exact HB.out)) hb); have n1_ := Aside0.mk (hbox); have n2_ := Aside0.mk ((by rw [hg]; exact (below_size (by repeat (first | (with_reducible first | exact HB.out | apply below_alloc | apply pw_below_drewN | apply below_drew1) | exact HB.out))) : w.heap.size ≤ gb219)); have n3_ := Aside0.mk ((by rw [hg]; exact (below_size (by repeat (first | (with_reducible first | exact HB.out | apply below_alloc | apply pw_below_drewN | apply below_drew1) | exact HB.out))) : w.heap.size ≤ gb219)); clear HB; have HB := n0_; have BK219 := n1_; have GW219 := n2_; have GE219 := n3_; clear n0_ n1_ n2_ n3_; clear hb hbox hg)); try go_wp2_with (first | ((with_reducible refine gate_dst (N := 2) rfl ?_); (try (refine gate_guard (by rfl) ?_; dsimp only)); refine box_event ?hg (N := 2) ?hd (cs := #[.slice A0_0 l0_0.length c0_0]) (t := 25) ?hr ?_; (case hd => rfl); (case hg => rfl); (case hr => first | (go_simp; done) | (go_simp; rfl)); intro gb219 hg w13 hbox hb; have n0_ := Aside0.mk (below_step (by repeat (first | (with_reducible first | exact HB.out | apply below_alloc | apply pw_below_drewN | apply below_drew1) | exact HB.out)) hb); have n1_ := Aside0.mk (hbox); have n2_ := Aside0.mk ((by rw [hg]; exact (below_size (by repeat (first | (with_reducible first | exact HB.out | apply below_alloc | apply pw_below_drewN | apply below_drew1) | exact HB.out))) : w.heap.size ≤ gb219)); have n3_ := Aside0.mk ((by rw [hg]; exact (below_size (by repeat (first | (with_reducible first | exact HB.out | apply below_alloc | apply pw_below_drewN | apply below_drew1) | exact HB.out))) : w.heap.size ≤ gb219)); clear HB; have HB := n0_; have BK219 := n1_; have GW219 := n2_; have GE219 := n3_; clear n0_ n1_ n2_ n3_; clear hb hbox hg)))
    go_ret
    exact ⟨by first | rfl | (simp [errW_none, errW_some] <;> rfl) | (simp [*, errW_none, errW_some] <;> rfl), by repeat (first | (with_reducible first | exact HB.out | apply below_alloc | apply pw_below_drewN | apply below_drew1 | refine below_set ?_ GE219.out) | exact HB.out)⟩

end Go.Proofs.Ytodldpdnhcafpaa.F

namespace Go.Proofs.Ytodldpdnhcafpaa.K
open Go.RowKit Go.Proofs.YtodldpdnhcafpaaW.PrintWords Go.Proofs.YtodldpdnhcafpaaW.PrintLast Go.Proofs.YtodldpdnhcafpaaW.PrintMore
open Go.Proofs.Ytodldpdnhcafpaa.F
set_option linter.unusedVariables false
set_option linter.unusedSimpArgs false

/-- What tree.kids hands to its function, in order, and what it answers. -/
def kids.l0 : Nat → Int → List Int → Int → List S47 → Option (List Int × Bool)
  | 0, _, _, _, _ => none
  | k + 1, en, pre, x, l => if x < en then (if 0 ≤ x then (if x < (l.length : Int) then (if (rd_T47 l x).f3 < 1 then some (pre ++ [x], false) else (if (rd_T47 l x).f3 > wrap64 (en - x) then some (pre ++ [x], false) else kids.l0 k en (pre ++ [x]) (wrap64 (x + (rd_T47 l x).f3)) l)) else none) else none) else some (pre, true)
def kids.f (k : Nat) (l : List S47) (n : Int) : Option (List Int × Bool) := (tree_sized.f l n).bind fun s => if s = true then (if 0 ≤ n then (if n < (l.length : Int) then kids.l0 k (wrap64 (n + (rd_T47 l n).f3)) [] (wrap64 (n + 1)) l else none) else none) else some ([], false)

theorem kids.l0_prefix : ∀ (k : Nat) (en : Int) (pre : List Int) (x : Int) (l : List S47) (r : List Int × Bool), kids.l0 k en pre x l = some r → pre <+: r.1
  | 0, _, _, _, _, _, h => by simp [kids.l0] at h
  | k + 1, en, pre, x, l, r, h => by
    simp only [kids.l0] at h
    split at h
    · split at h
      · split at h
        · split at h
          · obtain rfl := Option.some.inj h; exact ⟨[x], rfl⟩
          · split at h
            · obtain rfl := Option.some.inj h; exact ⟨[x], rfl⟩
            · exact List.IsPrefix.trans ⟨[x], rfl⟩ (kids.l0_prefix k en (pre ++ [x]) _ l r h)
        · exact absurd h (by simp)
      · exact absurd h (by simp)
    · obtain rfl := Option.some.inj h; exact List.prefix_refl _
theorem heap_lt {w : World} {b : Nat} {o : Obj} (h : w.heap[b]? = some o) : b < w.heap.size := (Array.getElem?_eq_some_iff.1 h).1
set_option maxHeartbeats 8000000 in
set_option maxRecDepth 100000 in
theorem kids.calls (g : Nat) (lb : Array Value) (eg : ∀ args w, (callFunc g args).run Try.prog w = .ok (.enter g args) w) (J : Nat → List Int → World → Prop) (k : Nat) (A : Option Addr) (c : Nat) (l : List S47) (n : Int) (ks : List Int) (ok : Bool) (w0 w : World)
    (hr : Kd.C k47 w0 A l.length l) (hc : l.length ≤ c) (hw : Below w0.heap.size w0 w) (h : kids.f k l n = some (ks, ok))
    (h0 : ∀ gb, w.heap.size ≤ gb → J gb [] w)
    (hal : ∀ gb pre W W', J gb pre W → Below W.heap.size W W' → J gb pre W')
    (hY : ∀ gb pre x W, (pre ++ [x]) <+: ks → 0 ≤ x → x < (l.length : Int) → J gb pre W → w.heap.size ≤ gb → gb < W.heap.size → Below w0.heap.size w0 W →
      Calls Try.prog g (#[.int .i64 x] ++ lb) W fun e W' => (∃ v, e = .returned v) ∧ J gb (pre ++ [x]) W' ∧ W'.heap[gb]? = W.heap[gb]? ∧ Below w0.heap.size w0 W') :
    Calls Try.prog 55 #[.agg #[.slice A l.length c], .int .i64 n, .func (.func g) #[] lb] w fun e w' => e = .returned (.bool ok) ∧ (∃ gb, J gb ks w') ∧ Below w0.heap.size w0 w' := by
  have hu25 := Try.underlying25
  have HR := Aside0.mk hr
  have HC := Aside0.mk hc
  have HW := Aside0.mk hw
  have H0 := Aside0.mk h0
  have HAL := Aside0.mk hal
  have HY := Aside0.mk hY
  clear hr hc hw h0 hal hY
  obtain ⟨s, hs, h⟩ := Option.bind_eq_some_iff.1 h
  have HS := Aside0.mk hs
  have HC1 := Aside0.mk h
  clear hs h
  have HB := Aside0.mk (Below.refl w.heap.size w)
  cases s with
  | false =>
    have H := HC1.out
    simp only [Bool.false_eq_true, if_false, Option.some.injEq, Prod.mk.injEq] at H
    obtain ⟨rfl, rfl⟩ := H
    clear HC1
    go_enter Try.func55, Try.ntmps55
    go_wp2_with (first | ((with_reducible refine gate_dst (N := 3) rfl ?_); (try (refine gate_guard (by rfl) ?_; dsimp only)); refine box_event ?hg (N := 3) ?hd (cs := #[.slice A l.length c]) (t := 25) ?hr ?_; (case hd => rfl); (case hg => rfl); (case hr => first | (go_simp; done) | (go_simp; rfl)); intro gb hg w4 hbox hb; have n0_ := Aside0.mk (below_step (by repeat (first | (with_reducible first | exact HB.out | apply below_alloc | apply pw_below_drewN | apply below_drew1) | exact HB.out)) hb); have n1_ := Aside0.mk (hbox); have n2_ := Aside0.mk ((by rw [hg]; exact (below_size (by repeat (first | (with_reducible first | exact HB.out | apply below_alloc | apply pw_below_drewN | apply below_drew1) | exact HB.out))) : w.heap.size ≤ gb)); have n3_ := Aside0.mk ((by rw [hg]; exact (below_size (by repeat (first | (with_reducible first | exact HB.out | apply below_alloc | apply pw_below_drewN | apply below_drew1) | exact HB.out))) : w.heap.size ≤ gb)); clear HB; have HB := n0_; have BK := n1_; have GW := n2_; have GE := n3_; clear n0_ n1_ n2_ n3_; clear hb hbox hg; have hcz0 : w4.cell? ⟨gb, 0, none⟩ = some (.slice A l.length c) := (blk_cell BK.out 0).trans rfl; have hfz0 := blk_frozen BK.out 0) | (go_at_call 51; refine (tree_sized.calls A c l n false _ (Kd.C_below (Kd.C_below HR.out HW.out) HB.out) HC.out HS.out).mono ?_; rintro e w5 ⟨rfl, hb5⟩; clear hcz0 hfz0; have n1_ := Aside0.mk (blk_below BK.out hb5); have n2_ := Aside0.mk (below_step HB.out hb5); clear BK HB hb5; have BK := n1_; have HB := n2_; clear n1_ n2_; have hcz0 : w5.cell? ⟨gb, 0, none⟩ = some (.slice A l.length c) := (blk_cell BK.out 0).trans rfl; have hfz0 := blk_frozen BK.out 0))
    go_ret
    exact ⟨rfl, ⟨gb, HAL.out gb [] w _ (H0.out gb GW.out) HB.out⟩, HW.out.trans (HB.out.mono HW.out.size)⟩
  | true =>
    have H := HC1.out
    rw [if_pos rfl] at H
    clear HC1
    by_cases d1 : 0 ≤ n
    · rw [if_pos d1] at H
      by_cases d2 : n < (l.length : Int)
      · rw [if_pos d2] at H
        have H' := Aside0.mk H
        clear H
        have p2 : 0 ≤ (n : Int) := d1
        have q2 : n < (l.length : Int) := d2
        obtain ⟨ad, e2, hx0, hx1, hx2, hx3⟩ := at_T47 HR.out n p2 q2
        cases e2
        replace p2 := eq_true p2
        replace q2 := eq_true q2
        have b2 : decide (0 ≤ n) = true := decide_eq_true d1
        have b3 : decide (n < (l.length : Int)) = true := decide_eq_true d2
        clear d1 d2
        replace hx3 := Aside0.mk hx3
        clear hx0 hx1 hx2
        go_enter Try.func55, Try.ntmps55
        go_wp2_with (first | ((with_reducible refine gate_dst (N := 3) rfl ?_); (try (refine gate_guard (by rfl) ?_; dsimp only)); refine box_event ?hg (N := 3) ?hd (cs := #[.slice (some ad) l.length c]) (t := 25) ?hr ?_; (case hd => rfl); (case hg => rfl); (case hr => first | (go_simp; done) | (go_simp; rfl)); intro gb hg w4 hbox hb; have n0_ := Aside0.mk (below_step (by repeat (first | (with_reducible first | exact HB.out | apply below_alloc | apply pw_below_drewN | apply below_drew1) | exact HB.out)) hb); have n1_ := Aside0.mk (hbox); have n2_ := Aside0.mk ((by rw [hg]; exact (below_size (by repeat (first | (with_reducible first | exact HB.out | apply below_alloc | apply pw_below_drewN | apply below_drew1) | exact HB.out))) : w.heap.size ≤ gb)); have n3_ := Aside0.mk ((by rw [hg]; exact (below_size (by repeat (first | (with_reducible first | exact HB.out | apply below_alloc | apply pw_below_drewN | apply below_drew1) | exact HB.out))) : w.heap.size ≤ gb)); clear HB; have HB := n0_; have BK := n1_; have GW := n2_; have GE := n3_; clear n0_ n1_ n2_ n3_; clear hb hbox hg; have hcz0 : w4.cell? ⟨gb, 0, none⟩ = some (.slice (some ad) l.length c) := (blk_cell BK.out 0).trans rfl; have hfz0 := blk_frozen BK.out 0) | (go_at_call 51; refine (tree_sized.calls (some ad) c l n true _ (Kd.C_below (Kd.C_below HR.out HW.out) HB.out) HC.out HS.out).mono ?_; rintro e w5 ⟨rfl, hb5⟩; clear hcz0 hfz0; have n1_ := Aside0.mk (blk_below BK.out hb5); have n2_ := Aside0.mk (below_step HB.out hb5); clear BK HB hb5; have BK := n1_; have HB := n2_; clear n1_ n2_; have hcz0 : w5.cell? ⟨gb, 0, none⟩ = some (.slice (some ad) l.length c) := (blk_cell BK.out 0).trans rfl; have hfz0 := blk_frozen BK.out 0; have hx := ((HW.out.trans (HB.out.mono HW.out.size)).cell (World.block_lt_of_cell? w0 _ hx3.out)).trans hx3.out))
        go_loopg [8] k (fun kq v8 w' => ∃ (pre : List Int) (x8 : Int), v8 = .int .i64 x8 ∧ Aside0 (kids.l0 kq (wrap64 (n + (rd_T47 l n).f3)) pre x8 l = some (ks, ok)) ∧ Aside0 (kq ≤ k) ∧ Aside0 (J gb pre w') ∧ Aside0 (w'.heap[gb]? = some (.cells #[.slice (some ad) l.length c] 25 (0, 0))) ∧ Aside0 (Below w0.heap.size w0 w'))
        case atStart => exact ⟨[], wrap64 (n + 1), by first | rfl | simp, H', ⟨Nat.le_refl _⟩, ⟨HAL.out gb [] w _ (H0.out gb GW.out) HB.out⟩, BK, ⟨HW.out.trans (HB.out.mono HW.out.size)⟩⟩
        case round =>
          clear hx hcz0 hfz0 BK H' p2 q2 b2 b3
          obtain ⟨pre, x8, rfl, HA, HK3, HJ, BK, HD⟩ := hrel
          have hcz0 : wr.cell? ⟨gb, 0, none⟩ = some (.slice (some ad) l.length c) := (blk_cell BK.out 0).trans rfl
          have hfz0 := blk_frozen BK.out 0
          cases gk with
          | zero => exact absurd HA.out (by simp [kids.l0])
          | succ k3 =>
            have H := HA.out
            clear HA
            simp only [kids.l0] at H
            by_cases c1 : x8 < wrap64 (n + (rd_T47 l n).f3)
            · rw [if_pos c1] at H
              have c1b : decide (x8 < wrap64 (n + (rd_T47 l n).f3)) = true := decide_eq_true c1
              clear c1
              by_cases c2 : 0 ≤ x8
              · rw [if_pos c2] at H
                by_cases c3 : x8 < (l.length : Int)
                · rw [if_pos c3] at H
                  obtain ⟨ad', e2, hy0, hy1, hy2, hy3⟩ := at_T47 HR.out x8 c2 c3
                  cases e2
                  have hx8 := Aside0.mk hy3
                  clear hy0 hy1 hy2 hy3
                  have c2b : decide (0 ≤ x8) = true := decide_eq_true c2
                  have c3b : decide (x8 < (l.length : Int)) = true := decide_eq_true c3
                  replace c2 := eq_true c2
                  replace c3 := eq_true c3
                  by_cases c4 : (rd_T47 l x8).f3 < 1
                  · rw [if_pos c4] at H
                    have c4b : decide ((rd_T47 l x8).f3 < 1) = true := decide_eq_true c4
                    clear c4
                    simp only [Option.some.injEq, Prod.mk.injEq] at H
                    obtain ⟨rfl, rfl⟩ := H
                    go_wp2_with fail
                    refine (HY.out gb pre x8 _ (List.prefix_refl _) (of_decide_eq_true c2b) (of_decide_eq_true c3b) HJ.out GW.out (heap_lt BK.out) HD.out).mono ?_
                    rintro e w6 ⟨⟨v, rfl⟩, hj, hbk, hd⟩
                    have n1_ := Aside0.mk hj
                    have n2_ := Aside0.mk (hbk.trans BK.out)
                    have n3_ := Aside0.mk hd
                    clear hcz0 hfz0 HJ BK HD hj hbk hd
                    have HJ := n1_
                    have BK := n2_
                    have HD := n3_
                    clear n1_ n2_ n3_
                    have hcz0 : w6.cell? ⟨gb, 0, none⟩ = some (.slice (some ad) l.length c) := (blk_cell BK.out 0).trans rfl
                    have hfz0 := blk_frozen BK.out 0
                    have hx := (HD.out.cell (World.block_lt_of_cell? w0 _ hx8.out)).trans hx8.out
                    go_wp2
                    go_ret
                    exact ⟨rfl, ⟨gb, HAL.out gb _ _ _ HJ.out (by repeat (first | exact Below.refl _ _ | apply below_drew1 | apply pw_below_drewN | apply below_alloc))⟩, by repeat (first | exact HD.out | apply below_drew1 | apply pw_below_drewN | apply below_alloc)⟩
                  · rw [if_neg c4] at H
                    have c4b : decide ((rd_T47 l x8).f3 < 1) = false := decide_eq_false c4
                    clear c4
                    by_cases c5 : (rd_T47 l x8).f3 > wrap64 (wrap64 (n + (rd_T47 l n).f3) - x8)
                    · rw [if_pos c5] at H
                      have c5b : decide (wrap64 (wrap64 (n + (rd_T47 l n).f3) - x8) < (rd_T47 l x8).f3) = true := decide_eq_true c5
                      clear c5
                      simp only [Option.some.injEq, Prod.mk.injEq] at H
                      obtain ⟨rfl, rfl⟩ := H
                      go_wp2_with fail
                      refine (HY.out gb pre x8 _ (List.prefix_refl _) (of_decide_eq_true c2b) (of_decide_eq_true c3b) HJ.out GW.out (heap_lt BK.out) HD.out).mono ?_
                      rintro e w6 ⟨⟨v, rfl⟩, hj, hbk, hd⟩
                      have n1_ := Aside0.mk hj
                      have n2_ := Aside0.mk (hbk.trans BK.out)
                      have n3_ := Aside0.mk hd
                      clear hcz0 hfz0 HJ BK HD hj hbk hd
                      have HJ := n1_
                      have BK := n2_
                      have HD := n3_
                      clear n1_ n2_ n3_
                      have hcz0 : w6.cell? ⟨gb, 0, none⟩ = some (.slice (some ad) l.length c) := (blk_cell BK.out 0).trans rfl
                      have hfz0 := blk_frozen BK.out 0
                      have hx := (HD.out.cell (World.block_lt_of_cell? w0 _ hx8.out)).trans hx8.out
                      go_wp2
                      go_ret
                      exact ⟨rfl, ⟨gb, HAL.out gb _ _ _ HJ.out (by repeat (first | exact Below.refl _ _ | apply below_drew1 | apply pw_below_drewN | apply below_alloc))⟩, by repeat (first | exact HD.out | apply below_drew1 | apply pw_below_drewN | apply below_alloc)⟩
                    · rw [if_neg c5] at H
                      have c5b : decide (wrap64 (wrap64 (n + (rd_T47 l n).f3) - x8) < (rd_T47 l x8).f3) = false := decide_eq_false c5
                      clear c5
                      have H' := Aside0.mk H
                      clear H
                      go_wp2_with fail
                      refine (HY.out gb pre x8 _ (kids.l0_prefix _ _ _ _ _ _ H'.out) (of_decide_eq_true c2b) (of_decide_eq_true c3b) HJ.out GW.out (heap_lt BK.out) HD.out).mono ?_
                      rintro e w6 ⟨⟨v, rfl⟩, hj, hbk, hd⟩
                      have n1_ := Aside0.mk hj
                      have n2_ := Aside0.mk (hbk.trans BK.out)
                      have n3_ := Aside0.mk hd
                      clear hcz0 hfz0 HJ BK HD hj hbk hd
                      have HJ := n1_
                      have BK := n2_
                      have HD := n3_
                      clear n1_ n2_ n3_
                      have hcz0 : w6.cell? ⟨gb, 0, none⟩ = some (.slice (some ad) l.length c) := (blk_cell BK.out 0).trans rfl
                      have hfz0 := blk_frozen BK.out 0
                      have hx := (HD.out.cell (World.block_lt_of_cell? w0 _ hx8.out)).trans hx8.out
                      go_wp2
                      go_roundg k3
                      case measure => have := HK3.out; omega
                      case rel => exact ⟨pre ++ [x8], wrap64 (x8 + (rd_T47 l x8).f3), by first | rfl | simp, H', ⟨by have := HK3.out; omega⟩, ⟨HAL.out gb _ _ _ HJ.out (by repeat (first | exact Below.refl _ _ | apply below_drew1 | apply pw_below_drewN | apply below_alloc))⟩, BK, ⟨by repeat (first | exact HD.out | apply below_drew1 | apply pw_below_drewN | apply below_alloc)⟩⟩
                · rw [if_neg c3] at H
                  exact absurd H (by simp)
              · rw [if_neg c2] at H
                exact absurd H (by simp)
            · rw [if_neg c1] at H
              have c1b : decide (x8 < wrap64 (n + (rd_T47 l n).f3)) = false := decide_eq_false c1
              clear c1
              simp only [Option.some.injEq, Prod.mk.injEq] at H
              obtain ⟨rfl, rfl⟩ := H
              go_wp2
              go_ret
              exact ⟨rfl, ⟨gb, HAL.out gb _ _ _ HJ.out (by repeat (first | exact Below.refl _ _ | apply below_drew1 | apply pw_below_drewN | apply below_alloc))⟩, by repeat (first | exact HD.out | apply below_drew1 | apply pw_below_drewN | apply below_alloc)⟩
      · rw [if_neg d2] at H
        exact absurd H (by simp)
    · rw [if_neg d1] at H
      exact absurd H (by simp)
end Go.Proofs.Ytodldpdnhcafpaa.K

-- A text of this session's own program (wip/myprint.sh over a changed print tool): functions and their walks
namespace Go.Proofs.Ytodldpdnhcafpaa.F
open Go.RowKit Go.Proofs.YtodldpdnhcafpaaW.PrintWords Go.Proofs.YtodldpdnhcafpaaW.PrintLast Go.Proofs.YtodldpdnhcafpaaW.PrintMore
attribute [local go_sem] max2_int min2_int max_two min_two max_three min_three max_four min_four   -- for this text's walks alone
set_option linter.unusedVariables false
set_option linter.unusedSimpArgs false

/-! ### monikerref4_Kids: function 36 -/
mutual
def monikerref4_Kids.j0 : Nat → Int → Bool → List (S47) → Option (List Int × Bool)
  | 0, _, _, _ => none
  | k + 1, x1, x17, x224000 => if x17 = true then (some (([] : List Int), false)) else (if 0 ≤ x1 then (if x1 < (x224000.length : Int) then (if ((rd_T47 x224000 x1).f3) < 1 then (monikerref4_Kids.j1 k x1 ((rd_T47 x224000 x1).f3) true x224000) else (monikerref4_Kids.j1 k x1 ((rd_T47 x224000 x1).f3) (decide (((rd_T47 x224000 x1).f3) > (wrap64 ((x224000.length : Int) - x1)))) x224000)) else (none)) else (none))
def monikerref4_Kids.j1 : Nat → Int → Int → Bool → List (S47) → Option (List Int × Bool)
  | 0, _, _, _, _ => none
  | k + 1, x1, x6, x34, x224000 => if x34 = true then (some (([] : List Int), false)) else (monikerref4_Kids.l0 k x1 x6 ([] : List Int) (wrap64 (x1 + 1)) x224000)
def monikerref4_Kids.l0 : Nat → Int → Int → List Int → Int → List (S47) → Option (List Int × Bool)
  | 0, _, _, _, _, _ => none
  | k + 1, x1, x6, x7, x8, x224000 => if x8 < (wrap64 (x1 + x6)) then (if x7.length < 17592186044416 then (if 0 ≤ x8 then (if x8 < (x224000.length : Int) then (if ((rd_T47 x224000 x8).f3) < 1 then (some (([] : List Int), false)) else (if ((rd_T47 x224000 x8).f3) > (wrap64 ((wrap64 (x1 + x6)) - x8)) then (some (([] : List Int), false)) else (monikerref4_Kids.l0 k x1 x6 (x7 ++ [x8]) (wrap64 (x8 + ((rd_T47 x224000 x8).f3))) x224000))) else (none)) else (none)) else (none)) else (some (x7, true))
end
def monikerref4_Kids.f (k : Nat) (l0_0 : List (S47)) (a1 : Int) : Option (List Int × Bool) := if a1 < 0 then (monikerref4_Kids.j0 k a1 true l0_0) else (monikerref4_Kids.j0 k a1 (decide (a1 ≥ (l0_0.length : Int))) l0_0)
set_option maxHeartbeats 8000000 in
set_option maxRecDepth 100000 in
theorem monikerref4_Kids.calls (k : Nat) (A0_0 : Option Addr) (c0_0 : Nat) (l0_0 : List (S47)) (a1 : Int) (r1 : List Int) (r2 : Bool) (w : World) (hr0_0 : Kd.C k47 w A0_0 l0_0.length l0_0) (hc0_0 : l0_0.length ≤ c0_0) (h : monikerref4_Kids.f k l0_0 a1 = some (r1, r2)) :
    Calls Try.prog 36 #[.agg #[.slice A0_0 l0_0.length c0_0], .int .i64 a1] w fun e w' => ∃ v0_ : Value, e = .returned (.tuple #[v0_, .bool r2]) ∧ Kd.R (Kd.int .i64) 3 w' w.heap.size (fun _ => True) v0_ r1 ∧ Below w.heap.size w w' := by
  have hu25 := Try.underlying25
  have HR0_0 := Aside0.mk hr0_0
  have HC0_0 := Aside0.mk hc0_0
  clear hr0_0 hc0_0
  have HB := Aside0.mk (Below.refl w.heap.size w)
  have H : (if a1 < 0 then (monikerref4_Kids.j0 k a1 true l0_0) else (monikerref4_Kids.j0 k a1 (decide (a1 ≥ (l0_0.length : Int))) l0_0)) = some (r1, r2) := h
  clear h
  have HC3 := Aside0.mk H
  clear H
  go_enter Try.func36, Try.ntmps36
  go_upto_region 1 with (first | ((with_reducible refine gate_dst (N := 2) rfl ?_); (try (refine gate_guard (by rfl) ?_; dsimp only)); refine box_event ?hg (N := 2) ?hd (cs := #[.slice A0_0 l0_0.length c0_0]) (t := 25) ?hr ?_; (case hd => rfl); (case hg => rfl); (case hr => first | (go_simp; done) | (go_simp; rfl)); intro gb223 hg w4 hbox hb; have n0_ := Aside0.mk (below_step (by repeat (first | (with_reducible first | exact HB.out | apply below_alloc | apply pw_below_drewN | apply below_drew1) | exact HB.out)) hb); have n1_ := Aside0.mk (hbox); have n2_ := Aside0.mk ((by rw [hg]; exact (below_size (by repeat (first | (with_reducible first | exact HB.out | apply below_alloc | apply pw_below_drewN | apply below_drew1) | exact HB.out))) : w.heap.size ≤ gb223)); have n3_ := Aside0.mk ((by rw [hg]; exact (below_size (by repeat (first | (with_reducible first | exact HB.out | apply below_alloc | apply pw_below_drewN | apply below_drew1) | exact HB.out))) : w.heap.size ≤ gb223)); clear HB; have HB := n0_; have BK223 := n1_; have GW223 := n2_; have GE223 := n3_; clear n0_ n1_ n2_ n3_; clear hb hbox hg))
  (try simp only [Act.put, List.setIfInBounds_toArray, List.set_cons_zero, List.set_cons_succ])
  go_cut [17] (fun v17 wc => ∃ (kq : Nat) (x17_2 : Bool), v17 = .bool x17_2 ∧ Aside0 (monikerref4_Kids.j0 kq a1 x17_2 l0_0 = some (r1, r2)) ∧ Aside0 (kq ≤ k) ∧ Aside0 (wc.heap[gb223]? = some (.cells #[(.slice A0_0 l0_0.length c0_0)] 25 (0, 0))) ∧ Aside0 (Below w.heap.size w wc))
  case first =>
    have H := HC3.out
    clear HC3
    by_cases c5 : a1 < 0
    · rw [if_pos c5] at H
      have c5b0 : decide (a1 < 0) = true := decide_eq_true c5
      clear c5
      (first | rw [c5b0] | (simp only [i64_w, i32_w]; rw [c5b0]) | skip)
      have H' := Aside0.mk H
      clear H
      go_wp2
      go_meet
      case rel => exact ⟨_, (true), (by first | rfl | (simp; done) | (simp [*]; done)), H', ⟨by first | omega | exact Nat.le_refl _⟩, ⟨by (with_reducible repeat (first | refine blk_drewN ?_ _ | refine blk_drew ?_ | refine blk_alloc ?_ _)); exact BK223.out⟩, ⟨by repeat (first | (with_reducible first | exact HB.out | apply below_alloc | apply pw_below_drewN | apply below_drew1 | refine below_set ?_ GE223.out) | exact HB.out)⟩⟩
    · rw [if_neg c5] at H
      have c5b0 : decide (a1 < 0) = false := decide_eq_false c5
      clear c5
      (first | rw [c5b0] | (simp only [i64_w, i32_w]; rw [c5b0]) | skip)
      have H' := Aside0.mk H
      clear H
      have hcz6_0 : w4.cell? ⟨gb223, 0, none⟩ = some (.slice A0_0 l0_0.length c0_0) := (blk_cell BK223.out 0).trans rfl
      have hfz6_0 := blk_frozen BK223.out 0
      go_wp2
      go_meet
      case rel => exact ⟨_, (decide (a1 ≥ (l0_0.length : Int))), (by first | rfl | (simp; done) | (simp [*]; done)), H', ⟨by first | omega | exact Nat.le_refl _⟩, ⟨by (with_reducible repeat (first | refine blk_drewN ?_ _ | refine blk_drew ?_ | refine blk_alloc ?_ _)); exact BK223.out⟩, ⟨by repeat (first | (with_reducible first | exact HB.out | apply below_alloc | apply pw_below_drewN | apply below_drew1 | refine below_set ?_ GE223.out) | exact HB.out)⟩⟩
  case rest =>
    clear HC3
    try clear p2
    try clear c3
    try clear c5
    try clear c5b0
    try clear hcz6_0
    try clear hfz6_0
    obtain ⟨kq, x17_2, rfl, HA, HJ2, BK223, HB⟩ := hcut
    cases kq with
    | zero => exact absurd HA.out (by simp [monikerref4_Kids.j0])
    | succ kj2 =>
      have H := HA.out
      clear HA
      simp only [monikerref4_Kids.j0] at H
      by_cases c7 : x17_2 = true
      · subst c7
        have H1 : (some (([] : List Int), false)) = some (r1, r2) := by rw [if_pos rfl] at H; exact H
        clear H
        have H := H1
        clear H1
        simp only [Option.some.injEq, Prod.mk.injEq] at H
        obtain ⟨rfl, rfl⟩ := H
        go_wp2
        go_ret2
        exact ⟨_, by first | rfl | (simp [errW_none, errW_some] <;> rfl) | (simp [*, errW_none, errW_some] <;> rfl), by first | exact Kd.R_nil _ _ _ _ _ | exact Kd.N_nil _ _ _ _ _ | exact Kd.V_nil _ _ _ _ _ | exact Kd.Q_nil _ _ _ _ _ | exact Kd.S_nil _ _ _ _ _, by repeat (first | (with_reducible first | exact HB.out | apply below_alloc | apply pw_below_drewN | apply below_drew1 | refine below_set ?_ GE223.out) | exact HB.out)⟩
      · replace c7 := Bool.eq_false_iff.mpr c7
        subst c7
        have H1 : (if 0 ≤ a1 then (if a1 < (l0_0.length : Int) then (if ((rd_T47 l0_0 a1).f3) < 1 then (monikerref4_Kids.j1 kj2 a1 ((rd_T47 l0_0 a1).f3) true l0_0) else (monikerref4_Kids.j1 kj2 a1 ((rd_T47 l0_0 a1).f3) (decide (((rd_T47 l0_0 a1).f3) > (wrap64 ((l0_0.length : Int) - a1)))) l0_0)) else (none)) else (none)) = some (r1, r2) := by rw [if_neg (show ¬ (false = true) by decide)] at H; exact H
        clear H
        have H := H1
        clear H1
        by_cases c8 : 0 ≤ a1
        · rw [if_pos c8] at H
          have c8b0 : decide (0 ≤ a1) = true := decide_eq_true c8
          clear c8
          by_cases c9 : a1 < (l0_0.length : Int)
          · rw [if_pos c9] at H
            have c9b0 : decide (a1 < (l0_0.length : Int)) = true := decide_eq_true c9
            clear c9
            have HC10 := Aside0.mk H
            clear H
            have hcz11_0 : wc.cell? ⟨gb223, 0, none⟩ = some (.slice A0_0 l0_0.length c0_0) := (blk_cell BK223.out 0).trans rfl
            have hfz11_0 := blk_frozen BK223.out 0
            have p224 : 0 ≤ (a1 : Int) := of_decide_eq_true (by first | (with_reducible assumption) | assumption)
            have q224 : a1 < (l0_0.length : Int) := of_decide_eq_true (by first | (with_reducible assumption) | assumption)
            obtain ⟨ad224, e224, hx224_0, hx224_1, hx224_2, hx224_3⟩ := at_T47 HR0_0.out a1 p224 q224
            cases e224
            replace hx224_0 := (HB.out.cell (World.block_lt_of_cell? w _ hx224_0)).trans hx224_0
            replace hx224_1 := (HB.out.cell (World.block_lt_of_cell? w _ hx224_1)).trans hx224_1
            replace hx224_2 := (HB.out.cell (World.block_lt_of_cell? w _ hx224_2)).trans hx224_2
            replace hx224_3 := (HB.out.cell (World.block_lt_of_cell? w _ hx224_3)).trans hx224_3
            replace p224 := eq_true p224
            replace q224 := eq_true q224
            go_upto_region 4 with (fail)
            go_cut [34] (fun v34 wc => ∃ (kq : Nat) (x34_9 : Bool), v34 = .bool x34_9 ∧ Aside0 (monikerref4_Kids.j1 kq a1 ((rd_T47 l0_0 a1).f3) x34_9 l0_0 = some (r1, r2)) ∧ Aside0 (kq ≤ kj2) ∧ Aside0 (wc.heap[gb223]? = some (.cells #[(.slice (some ad224) l0_0.length c0_0)] 25 (0, 0))) ∧ Aside0 (Below w.heap.size w wc))
            case first =>
              have H := HC10.out
              clear HC10
              by_cases c12 : ((rd_T47 l0_0 a1).f3) < 1
              · rw [if_pos c12] at H
                have c12b0 : decide (((rd_T47 l0_0 a1).f3) < 1) = true := decide_eq_true c12
                clear c12
                (first | rw [c12b0] | (simp only [i64_w, i32_w]; rw [c12b0]) | skip)
                have H' := Aside0.mk H
                clear H
                go_wp2
                go_meet
                case rel => exact ⟨_, (true), (by first | rfl | (simp; done) | (simp [*]; done)), H', ⟨by have := HJ2.out; first | omega | exact Nat.le_refl _⟩, ⟨by (with_reducible repeat (first | refine blk_drewN ?_ _ | refine blk_drew ?_ | refine blk_alloc ?_ _)); exact BK223.out⟩, ⟨by repeat (first | (with_reducible first | exact HB.out | apply below_alloc | apply pw_below_drewN | apply below_drew1 | refine below_set ?_ GE223.out) | exact HB.out)⟩⟩
              · rw [if_neg c12] at H
                have c12b0 : decide (((rd_T47 l0_0 a1).f3) < 1) = false := decide_eq_false c12
                clear c12
                (first | rw [c12b0] | (simp only [i64_w, i32_w]; rw [c12b0]) | skip)
                have H' := Aside0.mk H
                clear H
                have hcz13_0 : wc.cell? ⟨gb223, 0, none⟩ = some (.slice (some ad224) l0_0.length c0_0) := (blk_cell BK223.out 0).trans rfl
                have hfz13_0 := blk_frozen BK223.out 0
                go_wp2
                go_meet
                case rel => exact ⟨_, (decide (((rd_T47 l0_0 a1).f3) > (wrap64 ((l0_0.length : Int) - a1)))), (by first | rfl | (simp; done) | (simp [*]; done)), H', ⟨by have := HJ2.out; first | omega | exact Nat.le_refl _⟩, ⟨by (with_reducible repeat (first | refine blk_drewN ?_ _ | refine blk_drew ?_ | refine blk_alloc ?_ _)); exact BK223.out⟩, ⟨by repeat (first | (with_reducible first | exact HB.out | apply below_alloc | apply pw_below_drewN | apply below_drew1 | refine below_set ?_ GE223.out) | exact HB.out)⟩⟩
            case rest =>
              clear HC10
              try clear c1
              try clear p2
              try clear q2
              try clear hx2
              try clear c3
              try clear c5
              try clear c5b0
              try clear p6
              try clear c7
              try clear c8
              try clear c8b0
              try clear c9
              try clear c9b0
              try clear c12
              try clear c12b0
              try clear hcz11_0
              try clear hcz13_0
              try clear hcz6_0
              try clear hfz11_0
              try clear hfz13_0
              try clear hfz6_0
              try clear hx224_0
              try clear hx224_1
              try clear hx224_2
              try clear hx224_3
              try clear p2
              try clear p224
              try clear q224
              obtain ⟨kq, x34_9, rfl, HA, HJ9, BK223, HB⟩ := hcut
              cases kq with
              | zero => exact absurd HA.out (by simp [monikerref4_Kids.j1])
              | succ kj9 =>
                have H := HA.out
                clear HA
                simp only [monikerref4_Kids.j1] at H
                by_cases c14 : x34_9 = true
                · subst c14
                  have H1 : (some (([] : List Int), false)) = some (r1, r2) := by rw [if_pos rfl] at H; exact H
                  clear H
                  have H := H1
                  clear H1
                  simp only [Option.some.injEq, Prod.mk.injEq] at H
                  obtain ⟨rfl, rfl⟩ := H
                  go_wp2
                  go_ret2
                  exact ⟨_, by first | rfl | (simp [errW_none, errW_some] <;> rfl) | (simp [*, errW_none, errW_some] <;> rfl), by first | exact Kd.R_nil _ _ _ _ _ | exact Kd.N_nil _ _ _ _ _ | exact Kd.V_nil _ _ _ _ _ | exact Kd.Q_nil _ _ _ _ _ | exact Kd.S_nil _ _ _ _ _, by repeat (first | (with_reducible first | exact HB.out | apply below_alloc | apply pw_below_drewN | apply below_drew1 | refine below_set ?_ GE223.out) | exact HB.out)⟩
                · replace c14 := Bool.eq_false_iff.mpr c14
                  subst c14
                  have H1 : (monikerref4_Kids.l0 kj9 a1 ((rd_T47 l0_0 a1).f3) ([] : List Int) (wrap64 (a1 + 1)) l0_0) = some (r1, r2) := by rw [if_neg (show ¬ (false = true) by decide)] at H; exact H
                  clear H
                  have H := H1
                  clear H1
                  have H' := Aside0.mk H
                  clear H
                  go_wp2
                  go_loopg [7, 8] kj9 (fun kq v7 v8 w' => ∃ (x7_3 : List Int) (x8_3 : Int), v8 = .int .i64 x8_3 ∧ Aside0 (monikerref4_Kids.l0 kq a1 ((rd_T47 l0_0 a1).f3) x7_3 x8_3 l0_0 = some (r1, r2)) ∧ Aside0 (kq ≤ kj9) ∧ Aside0 (Kd.R (Kd.int .i64) 3 w' w.heap.size (fun _ => True) v7 x7_3) ∧ Aside0 (w'.heap[gb223]? = some (.cells #[(.slice (some ad224) l0_0.length c0_0)] 25 (0, 0))) ∧ Aside0 (Below w.heap.size w w'))
                  case atStart => exact ⟨(([] : List Int)), (wrap64 (a1 + 1)), (by first | rfl | (simp; done) | (simp [*]; done)), H', ⟨Nat.le_refl _⟩, ⟨by first | exact Kd.R_nil _ _ _ _ _ | exact Kd.N_nil _ _ _ _ _ | exact Kd.V_nil _ _ _ _ _ | exact Kd.Q_nil _ _ _ _ _ | exact Kd.S_nil _ _ _ _ _⟩, ⟨by (with_reducible repeat (first | refine blk_drewN ?_ _ | refine blk_drew ?_ | refine blk_alloc ?_ _)); exact BK223.out⟩, ⟨by repeat (first | (with_reducible first | exact HB.out | apply below_alloc | apply pw_below_drewN | apply below_drew1 | refine below_set ?_ GE223.out) | exact HB.out)⟩⟩
                  case round =>
                    clear H'
                    try clear c1
                    try clear p2
                    try clear q2
                    try clear hx2
                    try clear c3
                    try clear c5
                    try clear c5b0
                    try clear p6
                    try clear c7
                    try clear c8
                    try clear c8b0
                    try clear c9
                    try clear c9b0
                    try clear c12
                    try clear c12b0
                    try clear c14
                    try clear hcz11_0
                    try clear hcz13_0
                    try clear hcz6_0
                    try clear hfz11_0
                    try clear hfz13_0
                    try clear hfz6_0
                    try clear hx224_0
                    try clear hx224_1
                    try clear hx224_2
                    try clear hx224_3
                    try clear p2
                    try clear p224
                    try clear p6
                    try clear q2
                    try clear q224
                    obtain ⟨x7_3, x8_3, rfl, HA, HK3, HO_7, BK223, HB⟩ := hrel
                    cases gk with
                    | zero => exact absurd HA.out (by simp [monikerref4_Kids.l0])
                    | succ k3 =>
                      have H := HA.out
                      clear HA
                      simp only [monikerref4_Kids.l0] at H
                      by_cases c15 : x8_3 < (wrap64 (a1 + ((rd_T47 l0_0 a1).f3)))
                      · rw [if_pos c15] at H
                        have c15b0 : decide (x8_3 < (wrap64 (a1 + ((rd_T47 l0_0 a1).f3)))) = true := decide_eq_true c15
                        clear c15
                        by_cases c16 : x7_3.length < 17592186044416
                        · rw [if_pos c16] at H
                          have LMc16 := Aside0.mk c16
                          clear c16
                          obtain ⟨y225, hy225⟩ : ∃ y_ : List Int, y_ = (x7_3 ++ [x8_3]) := ⟨_, rfl⟩
                          replace H : (if 0 ≤ x8_3 then (if x8_3 < (l0_0.length : Int) then (if ((rd_T47 l0_0 x8_3).f3) < 1 then (some (([] : List Int), false)) else (if ((rd_T47 l0_0 x8_3).f3) > (wrap64 ((wrap64 (a1 + ((rd_T47 l0_0 a1).f3))) - x8_3)) then (some (([] : List Int), false)) else (monikerref4_Kids.l0 k3 a1 ((rd_T47 l0_0 a1).f3) y225 (wrap64 (x8_3 + ((rd_T47 l0_0 x8_3).f3))) l0_0))) else (none)) else (none)) = some (r1, r2) := by first | (rw [hy225]; with_reducible exact H) | (have H2_ := (Option.bind_some _ _).symm.trans H; rw [hy225]; with_reducible exact H2_) | (have H2_ := (Option.bind_some _ _).symm.trans H; with_reducible exact H2_) | with_reducible exact H | (rw [hy225]; exact H) | exact H
                          have Ny225 := Aside0.mk hy225
                          clear hy225
                          by_cases c17 : 0 ≤ x8_3
                          · rw [if_pos c17] at H
                            have c17b0 : decide (0 ≤ x8_3) = true := decide_eq_true c17
                            clear c17
                            by_cases c18 : x8_3 < (l0_0.length : Int)
                            · rw [if_pos c18] at H
                              have c18b0 : decide (x8_3 < (l0_0.length : Int)) = true := decide_eq_true c18
                              clear c18
                              by_cases c19 : ((rd_T47 l0_0 x8_3).f3) < 1
                              · rw [if_pos c19] at H
                                have c19b0 : decide (((rd_T47 l0_0 x8_3).f3) < 1) = true := decide_eq_true c19
                                clear c19
                                simp only [Option.some.injEq, Prod.mk.injEq] at H
                                obtain ⟨rfl, rfl⟩ := H
                                go_wp2_with (first | ((with_reducible refine gate_builtin (b := .append) (xs := #[.tmp 42, .tmp 44]) rfl ?_); (try (refine gate_guard (by rfl) ?_; dsimp only)); at_builtin; refine Kd.R_append (Kd.int .i64) (w0 := w) w.heap.size rfl (.tmp 42) (.tmp 44) 33 3 (.int .i64 0) 8 rfl Try.underlying33 info3 rfl (by decide) (by omega) u7 x7_3 x8_3 [.int .i64 x8_3] (fun _ => True) (fun _ => False) rfl rfl ?aP (fun _ hk => hk.elim) ?aF ?aO ?aB ?aS ?aL ?_; (case aP => exact rfl); (case aB => exact (by repeat (first | (with_reducible first | exact HB.out | apply below_alloc | apply pw_below_drewN | apply below_drew1 | refine below_set ?_ GE223.out) | exact HB.out))); (case aF => exact (fun _ _ => trivial)); (case aO => exact (by (with_reducible repeat (first | apply Kd.R_alloc | apply Kd.R_drewN | apply Kd.R_drew)); exact HO_7.out)); (case aS => exact (below_size (by repeat (first | (with_reducible first | exact HB.out | apply below_alloc | apply pw_below_drewN | apply below_drew1 | refine below_set ?_ GE223.out) | exact HB.out)))); (case aL => have := LMc16.out; omega); intro v226 w20 ho hb hg hat; rw [← Ny225.out] at ho; have n0_ := Aside0.mk (blk_grown (g := gb223) (o := .cells #[.slice (some ad224) l0_0.length c0_0] 25 (0, 0)) (by (with_reducible repeat (first | refine blk_drewN ?_ _ | refine blk_drew ?_ | refine blk_alloc ?_ _)); exact BK223.out) hg (Kd.R_ne HO_7.out BK223.out (by decide))); have n1_ := Aside0.mk (hb); have n2_ := Aside0.mk (ho); clear BK223; clear HB; clear HO_7; have BK223 := n0_; have HB := n1_; have HO227 := n2_; clear n0_ n1_ n2_; clear ho hb hg hat; have hcz21_0 : w20.cell? ⟨gb223, 0, none⟩ = some (.slice (some ad224) l0_0.length c0_0) := (blk_cell BK223.out 0).trans rfl; have hfz21_0 := blk_frozen BK223.out 0; have p228 : 0 ≤ (x8_3 : Int) := of_decide_eq_true (by first | (with_reducible assumption) | assumption); have q228 : x8_3 < (l0_0.length : Int) := of_decide_eq_true (by first | (with_reducible assumption) | assumption); obtain ⟨ad228, e228, hx228_0, hx228_1, hx228_2, hx228_3⟩ := at_T47 HR0_0.out x8_3 p228 q228; obtain rfl : ad224 = ad228 := (by injection e228); replace hx228_0 := (HB.out.cell (World.block_lt_of_cell? w _ hx228_0)).trans hx228_0; replace hx228_1 := (HB.out.cell (World.block_lt_of_cell? w _ hx228_1)).trans hx228_1; replace hx228_2 := (HB.out.cell (World.block_lt_of_cell? w _ hx228_2)).trans hx228_2; replace hx228_3 := (HB.out.cell (World.block_lt_of_cell? w _ hx228_3)).trans hx228_3; replace p228 := eq_true p228; replace q228 := eq_true q228))
                                go_ret2
                                exact ⟨_, by first | rfl | (simp [errW_none, errW_some] <;> rfl) | (simp [*, errW_none, errW_some] <;> rfl), by first | exact Kd.R_nil _ _ _ _ _ | exact Kd.N_nil _ _ _ _ _ | exact Kd.V_nil _ _ _ _ _ | exact Kd.Q_nil _ _ _ _ _ | exact Kd.S_nil _ _ _ _ _, by repeat (first | (with_reducible first | exact HB.out | apply below_alloc | apply pw_below_drewN | apply below_drew1 | refine below_set ?_ GE223.out) | exact HB.out)⟩
                              · rw [if_neg c19] at H
                                have c19b0 : decide (((rd_T47 l0_0 x8_3).f3) < 1) = false := decide_eq_false c19
                                clear c19
                                by_cases c22 : ((rd_T47 l0_0 x8_3).f3) > (wrap64 ((wrap64 (a1 + ((rd_T47 l0_0 a1).f3))) - x8_3))
                                · rw [if_pos c22] at H
                                  have c22b0 : decide ((wrap64 ((wrap64 (a1 + ((rd_T47 l0_0 a1).f3))) - x8_3)) < ((rd_T47 l0_0 x8_3).f3)) = true := decide_eq_true c22
                                  clear c22
                                  simp only [Option.some.injEq, Prod.mk.injEq] at H
                                  obtain ⟨rfl, rfl⟩ := H
                                  go_wp2_with (first | ((with_reducible refine gate_builtin (b := .append) (xs := #[.tmp 42, .tmp 44]) rfl ?_); (try (refine gate_guard (by rfl) ?_; dsimp only)); at_builtin; refine Kd.R_append (Kd.int .i64) (w0 := w) w.heap.size rfl (.tmp 42) (.tmp 44) 33 3 (.int .i64 0) 8 rfl Try.underlying33 info3 rfl (by decide) (by omega) u7 x7_3 x8_3 [.int .i64 x8_3] (fun _ => True) (fun _ => False) rfl rfl ?aP (fun _ hk => hk.elim) ?aF ?aO ?aB ?aS ?aL ?_; (case aP => exact rfl); (case aB => exact (by repeat (first | (with_reducible first | exact HB.out | apply below_alloc | apply pw_below_drewN | apply below_drew1 | refine below_set ?_ GE223.out) | exact HB.out))); (case aF => exact (fun _ _ => trivial)); (case aO => exact (by (with_reducible repeat (first | apply Kd.R_alloc | apply Kd.R_drewN | apply Kd.R_drew)); exact HO_7.out)); (case aS => exact (below_size (by repeat (first | (with_reducible first | exact HB.out | apply below_alloc | apply pw_below_drewN | apply below_drew1 | refine below_set ?_ GE223.out) | exact HB.out)))); (case aL => have := LMc16.out; omega); intro v226 w23 ho hb hg hat; rw [← Ny225.out] at ho; have n0_ := Aside0.mk (blk_grown (g := gb223) (o := .cells #[.slice (some ad224) l0_0.length c0_0] 25 (0, 0)) (by (with_reducible repeat (first | refine blk_drewN ?_ _ | refine blk_drew ?_ | refine blk_alloc ?_ _)); exact BK223.out) hg (Kd.R_ne HO_7.out BK223.out (by decide))); have n1_ := Aside0.mk (hb); have n2_ := Aside0.mk (ho); clear BK223; clear HB; clear HO_7; have BK223 := n0_; have HB := n1_; have HO227 := n2_; clear n0_ n1_ n2_; clear ho hb hg hat; have hcz24_0 : w23.cell? ⟨gb223, 0, none⟩ = some (.slice (some ad224) l0_0.length c0_0) := (blk_cell BK223.out 0).trans rfl; have hfz24_0 := blk_frozen BK223.out 0; have p228 : 0 ≤ (x8_3 : Int) := of_decide_eq_true (by first | (with_reducible assumption) | assumption); have q228 : x8_3 < (l0_0.length : Int) := of_decide_eq_true (by first | (with_reducible assumption) | assumption); obtain ⟨ad228, e228, hx228_0, hx228_1, hx228_2, hx228_3⟩ := at_T47 HR0_0.out x8_3 p228 q228; obtain rfl : ad224 = ad228 := (by injection e228); replace hx228_0 := (HB.out.cell (World.block_lt_of_cell? w _ hx228_0)).trans hx228_0; replace hx228_1 := (HB.out.cell (World.block_lt_of_cell? w _ hx228_1)).trans hx228_1; replace hx228_2 := (HB.out.cell (World.block_lt_of_cell? w _ hx228_2)).trans hx228_2; replace hx228_3 := (HB.out.cell (World.block_lt_of_cell? w _ hx228_3)).trans hx228_3; replace p228 := eq_true p228; replace q228 := eq_true q228; have p229 : 0 ≤ (x8_3 : Int) := of_decide_eq_true (by first | (with_reducible assumption) | assumption); have q229 : x8_3 < (l0_0.length : Int) := of_decide_eq_true (by first | (with_reducible assumption) | assumption); obtain ⟨ad229, e229, hx229_0, hx229_1, hx229_2, hx229_3⟩ := at_T47 HR0_0.out x8_3 p229 q229; obtain rfl : ad224 = ad229 := (by injection e229); replace hx229_0 := (HB.out.cell (World.block_lt_of_cell? w _ hx229_0)).trans hx229_0; replace hx229_1 := (HB.out.cell (World.block_lt_of_cell? w _ hx229_1)).trans hx229_1; replace hx229_2 := (HB.out.cell (World.block_lt_of_cell? w _ hx229_2)).trans hx229_2; replace hx229_3 := (HB.out.cell (World.block_lt_of_cell? w _ hx229_3)).trans hx229_3; replace p229 := eq_true p229; replace q229 := eq_true q229))
                                  go_ret2
                                  exact ⟨_, by first | rfl | (simp [errW_none, errW_some] <;> rfl) | (simp [*, errW_none, errW_some] <;> rfl), by first | exact Kd.R_nil _ _ _ _ _ | exact Kd.N_nil _ _ _ _ _ | exact Kd.V_nil _ _ _ _ _ | exact Kd.Q_nil _ _ _ _ _ | exact Kd.S_nil _ _ _ _ _, by repeat (first | (with_reducible first | exact HB.out | apply below_alloc | apply pw_below_drewN | apply below_drew1 | refine below_set ?_ GE223.out) | exact HB.out)⟩
                                · rw [if_neg c22] at H
                                  have c22b0 : decide ((wrap64 ((wrap64 (a1 + ((rd_T47 l0_0 a1).f3))) - x8_3)) < ((rd_T47 l0_0 x8_3).f3)) = false := decide_eq_false c22
                                  clear c22
                                  have H' := Aside0.mk H
                                  clear H
                                  go_wp2_with (first | ((with_reducible refine gate_builtin (b := .append) (xs := #[.tmp 42, .tmp 44]) rfl ?_); (try (refine gate_guard (by rfl) ?_; dsimp only)); at_builtin; refine Kd.R_append (Kd.int .i64) (w0 := w) w.heap.size rfl (.tmp 42) (.tmp 44) 33 3 (.int .i64 0) 8 rfl Try.underlying33 info3 rfl (by decide) (by omega) u7 x7_3 x8_3 [.int .i64 x8_3] (fun _ => True) (fun _ => False) rfl rfl ?aP (fun _ hk => hk.elim) ?aF ?aO ?aB ?aS ?aL ?_; (case aP => exact rfl); (case aB => exact (by repeat (first | (with_reducible first | exact HB.out | apply below_alloc | apply pw_below_drewN | apply below_drew1 | refine below_set ?_ GE223.out) | exact HB.out))); (case aF => exact (fun _ _ => trivial)); (case aO => exact (by (with_reducible repeat (first | apply Kd.R_alloc | apply Kd.R_drewN | apply Kd.R_drew)); exact HO_7.out)); (case aS => exact (below_size (by repeat (first | (with_reducible first | exact HB.out | apply below_alloc | apply pw_below_drewN | apply below_drew1 | refine below_set ?_ GE223.out) | exact HB.out)))); (case aL => have := LMc16.out; omega); intro v226 w25 ho hb hg hat; rw [← Ny225.out] at ho; have n0_ := Aside0.mk (blk_grown (g := gb223) (o := .cells #[.slice (some ad224) l0_0.length c0_0] 25 (0, 0)) (by (with_reducible repeat (first | refine blk_drewN ?_ _ | refine blk_drew ?_ | refine blk_alloc ?_ _)); exact BK223.out) hg (Kd.R_ne HO_7.out BK223.out (by decide))); have n1_ := Aside0.mk (hb); have n2_ := Aside0.mk (ho); clear BK223; clear HB; clear HO_7; have BK223 := n0_; have HB := n1_; have HO227 := n2_; clear n0_ n1_ n2_; clear ho hb hg hat; have hcz26_0 : w25.cell? ⟨gb223, 0, none⟩ = some (.slice (some ad224) l0_0.length c0_0) := (blk_cell BK223.out 0).trans rfl; have hfz26_0 := blk_frozen BK223.out 0; have p228 : 0 ≤ (x8_3 : Int) := of_decide_eq_true (by first | (with_reducible assumption) | assumption); have q228 : x8_3 < (l0_0.length : Int) := of_decide_eq_true (by first | (with_reducible assumption) | assumption); obtain ⟨ad228, e228, hx228_0, hx228_1, hx228_2, hx228_3⟩ := at_T47 HR0_0.out x8_3 p228 q228; obtain rfl : ad224 = ad228 := (by injection e228); replace hx228_0 := (HB.out.cell (World.block_lt_of_cell? w _ hx228_0)).trans hx228_0; replace hx228_1 := (HB.out.cell (World.block_lt_of_cell? w _ hx228_1)).trans hx228_1; replace hx228_2 := (HB.out.cell (World.block_lt_of_cell? w _ hx228_2)).trans hx228_2; replace hx228_3 := (HB.out.cell (World.block_lt_of_cell? w _ hx228_3)).trans hx228_3; replace p228 := eq_true p228; replace q228 := eq_true q228; have p229 : 0 ≤ (x8_3 : Int) := of_decide_eq_true (by first | (with_reducible assumption) | assumption); have q229 : x8_3 < (l0_0.length : Int) := of_decide_eq_true (by first | (with_reducible assumption) | assumption); obtain ⟨ad229, e229, hx229_0, hx229_1, hx229_2, hx229_3⟩ := at_T47 HR0_0.out x8_3 p229 q229; obtain rfl : ad224 = ad229 := (by injection e229); replace hx229_0 := (HB.out.cell (World.block_lt_of_cell? w _ hx229_0)).trans hx229_0; replace hx229_1 := (HB.out.cell (World.block_lt_of_cell? w _ hx229_1)).trans hx229_1; replace hx229_2 := (HB.out.cell (World.block_lt_of_cell? w _ hx229_2)).trans hx229_2; replace hx229_3 := (HB.out.cell (World.block_lt_of_cell? w _ hx229_3)).trans hx229_3; replace p229 := eq_true p229; replace q229 := eq_true q229; have p230 : 0 ≤ (x8_3 : Int) := of_decide_eq_true (by first | (with_reducible assumption) | assumption); have q230 : x8_3 < (l0_0.length : Int) := of_decide_eq_true (by first | (with_reducible assumption) | assumption); obtain ⟨ad230, e230, hx230_0, hx230_1, hx230_2, hx230_3⟩ := at_T47 HR0_0.out x8_3 p230 q230; obtain rfl : ad224 = ad230 := (by injection e230); replace hx230_0 := (HB.out.cell (World.block_lt_of_cell? w _ hx230_0)).trans hx230_0; replace hx230_1 := (HB.out.cell (World.block_lt_of_cell? w _ hx230_1)).trans hx230_1; replace hx230_2 := (HB.out.cell (World.block_lt_of_cell? w _ hx230_2)).trans hx230_2; replace hx230_3 := (HB.out.cell (World.block_lt_of_cell? w _ hx230_3)).trans hx230_3; replace p230 := eq_true p230; replace q230 := eq_true q230))
                                  go_roundg k3
                                  case measure => have := HJ2.out; have := HJ9.out; have := HK3.out; omega
                                  case rel => exact ⟨(y225), (wrap64 (x8_3 + ((rd_T47 l0_0 x8_3).f3))), (by first | rfl | (simp; done) | (simp [*]; done)), H', ⟨by have := HJ2.out; have := HJ9.out; have := HK3.out; omega⟩, ⟨by (with_reducible repeat (first | apply Kd.R_alloc | apply Kd.R_drewN | apply Kd.R_drew)); exact HO227.out⟩, ⟨by (with_reducible repeat (first | refine blk_drewN ?_ _ | refine blk_drew ?_ | refine blk_alloc ?_ _)); exact BK223.out⟩, ⟨by repeat (first | (with_reducible first | exact HB.out | apply below_alloc | apply pw_below_drewN | apply below_drew1 | refine below_set ?_ GE223.out) | exact HB.out)⟩⟩
                            · rw [if_neg c18] at H
                              exact absurd H (by simp)
                          · rw [if_neg c17] at H
                            exact absurd H (by simp)
                        · rw [if_neg c16] at H
                          exact absurd H (by simp)
                      · rw [if_neg c15] at H
                        have c15b0 : decide (x8_3 < (wrap64 (a1 + ((rd_T47 l0_0 a1).f3)))) = false := decide_eq_false c15
                        clear c15
                        simp only [Option.some.injEq, Prod.mk.injEq] at H
                        obtain ⟨rfl, rfl⟩ := H
                        go_wp2
                        go_ret2
                        exact ⟨_, by first | rfl | (simp [errW_none, errW_some] <;> rfl) | (simp [*, errW_none, errW_some] <;> rfl), by (with_reducible repeat (first | apply Kd.R_alloc | apply Kd.R_drewN | apply Kd.R_drew)); exact HO_7.out, by repeat (first | (with_reducible first | exact HB.out | apply below_alloc | apply pw_below_drewN | apply below_drew1 | refine below_set ?_ GE223.out) | exact HB.out)⟩
          · rw [if_neg c9] at H
            exact absurd H (by simp)
        · rw [if_neg c8] at H
          exact absurd H (by simp)

end Go.Proofs.Ytodldpdnhcafpaa.F

namespace Go.Proofs.Ytodldpdnhcafpaa.Q
open Go.RowKit Go.Proofs.YtodldpdnhcafpaaW.PrintWords Go.Proofs.YtodldpdnhcafpaaW.PrintLast Go.Proofs.YtodldpdnhcafpaaW.PrintMore
open Go.Proofs.Ytodldpdnhcafpaa.F Go.Proofs.Ytodldpdnhcafpaa.K
set_option linter.unusedSimpArgs false
set_option linter.unusedVariables false

theorem kw64 {x : Int} (h0 : -9223372036854775808 ≤ x) (h1 : x ≤ 9223372036854775807) : wrap64 x = x := by unfold wrap64; omega
/-- The kids' numbers up to the first that is out of order; whether none is. -/
def kgo (l : List S47) (en : Int) : Nat → List Int → Int → List Int × Bool
  | 0, pre, _ => (pre, true)
  | d + 1, pre, x => if x < en then (if (rd_T47 l x).f3 < 1 then (pre ++ [x], false) else if (rd_T47 l x).f3 > en - x then (pre ++ [x], false) else kgo l en d (pre ++ [x]) (x + (rd_T47 l x).f3)) else (pre, true)
def sizedB (l : List S47) (n : Int) : Bool := decide (0 ≤ n) && (decide (n < (l.length : Int)) && (decide (1 ≤ (rd_T47 l n).f3) && decide ((rd_T47 l n).f3 ≤ (l.length : Int) - n)))
def kspec (l : List S47) (n : Int) : List Int × Bool := if sizedB l n = true then kgo l (n + (rd_T47 l n).f3) l.length [] (n + 1) else ([], false)
def kidsOf (l : List S47) (n : Int) : List Int := if (kspec l n).2 = true then (kspec l n).1 else []

theorem sized_is (l : List S47) (hl : l.length ≤ 4398046511104) (n : Int) : tree_sized.f l n = some (sizedB l n) := by
  unfold tree_sized.f sizedB
  by_cases h1 : n ≥ 0
  · by_cases h2 : n < (l.length : Int)
    · rw [if_pos h1, if_pos h2, if_pos h1, kw64 (by omega) (by omega)]
      by_cases h3 : (rd_T47 l n).f3 ≥ 1
      · rw [if_pos h3]
        simp [h1, h2, show 1 ≤ (rd_T47 l n).f3 from h3]
      · rw [if_neg h3]
        simp [h1, h2, show ¬ 1 ≤ (rd_T47 l n).f3 from h3]
    · rw [if_pos h1, if_neg h2]; simp [h2]
  · rw [if_neg h1]; simp [show ¬ 0 ≤ n from h1]

theorem kids_loop (l : List S47) (hl : l.length ≤ 4398046511104) (n sz en : Int) (hen : en ≤ l.length) (he : wrap64 (n + sz) = en) (h0 : 0 ≤ en) (d : Nat) : ∀ (pre : List Int) (x : Int), 0 ≤ x → en - x ≤ d → (pre.length : Int) ≤ x → pre.length ≤ l.length →
    Ev (fun k => kids.l0 k en pre x l) (kgo l en d pre x) ∧ (kgo l en d pre x).1.length ≤ l.length ∧
    Ev (fun k => monikerref4_Kids.l0 k n sz pre x l) (if (kgo l en d pre x).2 = true then (kgo l en d pre x).1 else [], (kgo l en d pre x).2) := by
  induction d with
  | zero =>
    intro pre x hx hd hp hpl
    refine ⟨⟨1, fun m hm => ?_⟩, hpl, ⟨1, fun m hm => ?_⟩⟩
    · obtain ⟨k, rfl⟩ : ∃ j, m = j + 1 := ⟨m - 1, by omega⟩
      simp only [kids.l0, kgo]
      rw [if_neg (by omega)]
    · obtain ⟨k, rfl⟩ : ∃ j, m = j + 1 := ⟨m - 1, by omega⟩
      simp only [monikerref4_Kids.l0, kgo, he]
      rw [if_neg (by omega), if_pos trivial]
  | succ d ih =>
    intro pre x hx hd hp hpl
    have hlim : pre.length < 17592186044416 := by omega
    by_cases c : x < en
    · have hx2 : x < (l.length : Int) := by omega
      have hw : wrap64 (en - x) = en - x := kw64 (by omega) (by omega)
      have hl1 : (pre ++ [x]).length ≤ l.length := by rw [List.length_append, List.length_singleton]; omega
      by_cases c1 : (rd_T47 l x).f3 < 1
      · have e : kgo l en (d + 1) pre x = (pre ++ [x], false) := by simp only [kgo]; rw [if_pos c, if_pos c1]
        rw [e]
        refine ⟨⟨1, fun m hm => ?_⟩, hl1, ⟨1, fun m hm => ?_⟩⟩
        · obtain ⟨k, rfl⟩ : ∃ j, m = j + 1 := ⟨m - 1, by omega⟩
          simp only [kids.l0]
          rw [if_pos c, if_pos hx, if_pos hx2, if_pos c1]
        · obtain ⟨k, rfl⟩ : ∃ j, m = j + 1 := ⟨m - 1, by omega⟩
          simp only [monikerref4_Kids.l0, he]
          rw [if_pos c, if_pos hlim, if_pos hx, if_pos hx2, if_pos c1]
          simp
      · by_cases c2 : (rd_T47 l x).f3 > en - x
        · have e : kgo l en (d + 1) pre x = (pre ++ [x], false) := by simp only [kgo]; rw [if_pos c, if_neg c1, if_pos c2]
          rw [e]
          refine ⟨⟨1, fun m hm => ?_⟩, hl1, ⟨1, fun m hm => ?_⟩⟩
          · obtain ⟨k, rfl⟩ : ∃ j, m = j + 1 := ⟨m - 1, by omega⟩
            simp only [kids.l0]
            rw [if_pos c, if_pos hx, if_pos hx2, if_neg c1, hw, if_pos c2]
          · obtain ⟨k, rfl⟩ : ∃ j, m = j + 1 := ⟨m - 1, by omega⟩
            simp only [monikerref4_Kids.l0, he]
            rw [if_pos c, if_pos hlim, if_pos hx, if_pos hx2, if_neg c1, hw, if_pos c2]
            simp
        · have e : kgo l en (d + 1) pre x = kgo l en d (pre ++ [x]) (x + (rd_T47 l x).f3) := by simp only [kgo]; rw [if_pos c, if_neg c1, if_neg c2]
          rw [e]
          have hw2 : wrap64 (x + (rd_T47 l x).f3) = x + (rd_T47 l x).f3 := kw64 (by omega) (by omega)
          obtain ⟨i1, i2, i3⟩ := ih (pre ++ [x]) (x + (rd_T47 l x).f3) (by omega) (by omega) (by rw [List.length_append, List.length_singleton]; omega) hl1
          refine ⟨Ev.step (fun k => ?_) i1, i2, Ev.step (fun k => ?_) i3⟩
          · simp only [kids.l0]
            rw [if_pos c, if_pos hx, if_pos hx2, if_neg c1, hw, if_neg c2, hw2]
          · simp only [monikerref4_Kids.l0, he]
            rw [if_pos c, if_pos hlim, if_pos hx, if_pos hx2, if_neg c1, hw, if_neg c2, hw2]
    · have e : kgo l en (d + 1) pre x = (pre, true) := by simp only [kgo]; rw [if_neg c]
      rw [e]
      refine ⟨⟨1, fun m hm => ?_⟩, hpl, ⟨1, fun m hm => ?_⟩⟩
      · obtain ⟨k, rfl⟩ : ∃ j, m = j + 1 := ⟨m - 1, by omega⟩
        simp only [kids.l0]
        rw [if_neg c]
      · obtain ⟨k, rfl⟩ : ∃ j, m = j + 1 := ⟨m - 1, by omega⟩
        simp only [monikerref4_Kids.l0, he]
        rw [if_neg c, if_pos trivial]

theorem Kids_all (l : List S47) (hl : l.length ≤ 4398046511104) (n : Int) :
    Ev (fun k => kids.f k l n) (kspec l n) ∧ (kspec l n).1.length ≤ l.length ∧ Ev (fun k => monikerref4_Kids.f k l n) (kidsOf l n, (kspec l n).2) := by
  unfold kidsOf
  by_cases hs : sizedB l n = true
  · have h := hs
    unfold sizedB at h
    simp only [Bool.and_eq_true, decide_eq_true_eq] at h
    obtain ⟨h1, h2, h3, h4⟩ := h
    have hw : wrap64 (n + (rd_T47 l n).f3) = n + (rd_T47 l n).f3 := kw64 (by omega) (by omega)
    have hw1 : wrap64 (n + 1) = n + 1 := kw64 (by omega) (by omega)
    have hw2 : wrap64 ((l.length : Int) - n) = (l.length : Int) - n := kw64 (by omega) (by omega)
    obtain ⟨i1, i2, i3⟩ := kids_loop l hl n (rd_T47 l n).f3 (n + (rd_T47 l n).f3) (by omega) hw (by omega) l.length [] (n + 1) (by omega) (by omega) (by simp; omega) (by simp)
    have e : kspec l n = kgo l (n + (rd_T47 l n).f3) l.length [] (n + 1) := by unfold kspec; rw [if_pos hs]
    rw [e]
    refine ⟨Ev.congr (fun k => ?_) i1, i2, ?_⟩
    · unfold kids.f
      rw [sized_is l hl, hs]
      simp only [Option.bind_some, if_true]
      rw [if_pos h1, if_pos h2, hw, hw1]
    · unfold monikerref4_Kids.f
      simp only [if_neg (show ¬ n < 0 by omega), show decide (n ≥ (l.length : Int)) = false from decide_eq_false (by omega)]
      refine Ev.step (f := fun k => monikerref4_Kids.j1 k n (rd_T47 l n).f3 false l) (fun k => ?_) ?_
      · simp only [monikerref4_Kids.j0, hw2]
        rw [if_neg (by simp), if_pos h1, if_pos h2, if_neg (by omega), show decide ((rd_T47 l n).f3 > (l.length : Int) - n) = false from decide_eq_false (by omega)]
      · refine Ev.step (fun k => ?_) i3
        simp only [monikerref4_Kids.j1, hw1]
        rw [if_neg (by simp)]
  · have e : kspec l n = ([], false) := by unfold kspec; rw [if_neg hs]
    rw [e]
    have hs' : sizedB l n = false := by simpa using hs
    refine ⟨⟨0, fun k _ => ?_⟩, by simp, ?_⟩
    · simp only
      unfold kids.f
      rw [sized_is l hl, hs']
      simp
    · simp only [Bool.false_eq_true, if_false]
      have hbad : Ev (fun k => monikerref4_Kids.j0 k n true l) (([] : List Int), false) := ⟨1, fun m hm => by
        obtain ⟨k, rfl⟩ : ∃ j, m = j + 1 := ⟨m - 1, by omega⟩
        simp only [monikerref4_Kids.j0]; rfl⟩
      unfold monikerref4_Kids.f
      by_cases h1 : n < 0
      · simp only [if_pos h1]; exact hbad
      · simp only [if_neg h1]
        by_cases h2 : n ≥ (l.length : Int)
        · rw [decide_eq_true h2]; exact hbad
        · rw [decide_eq_false h2]
          have hw2 : wrap64 ((l.length : Int) - n) = (l.length : Int) - n := kw64 (by omega) (by omega)
          have hbad1 : ∀ sz, Ev (fun k => monikerref4_Kids.j1 k n sz true l) (([] : List Int), false) := fun sz => ⟨1, fun m hm => by
            obtain ⟨k, rfl⟩ : ∃ j, m = j + 1 := ⟨m - 1, by omega⟩
            simp only [monikerref4_Kids.j1]; rfl⟩
          refine Ev.step (f := fun k => monikerref4_Kids.j1 k n (rd_T47 l n).f3 true l) (fun k => ?_) (hbad1 _)
          simp only [monikerref4_Kids.j0, hw2]
          rw [if_neg (by simp), if_pos (by omega), if_pos (by omega)]
          by_cases h3 : (rd_T47 l n).f3 < 1
          · rw [if_pos h3]
          · rw [if_neg h3]
            have h4 : (rd_T47 l n).f3 > (l.length : Int) - n := by
              apply Classical.byContradiction
              intro h4
              apply hs
              unfold sizedB
              simp only [Bool.and_eq_true, decide_eq_true_eq]
              omega
            rw [decide_eq_true h4]
end Go.Proofs.Ytodldpdnhcafpaa.Q

-- A text of this session's own program (wip/myprint.sh over a changed print tool): functions and their walks
namespace Go.Proofs.Ytodldpdnhcafpaa.F
open Go.RowKit Go.Proofs.YtodldpdnhcafpaaW.PrintWords Go.Proofs.YtodldpdnhcafpaaW.PrintLast Go.Proofs.YtodldpdnhcafpaaW.PrintMore
attribute [local go_sem] max2_int min2_int max_two min_two max_three min_three max_four min_four   -- for this text's walks alone
set_option linter.unusedVariables false
set_option linter.unusedSimpArgs false

/-! ### monikerref4_Shaped: function 59 -/
mutual
def monikerref4_Shaped.j0 : Nat → Bool → List (S47) → Option (Bool)
  | 0, _, _ => none
  | k + 1, x20, x291000 => if x20 = true then (some false) else (monikerref4_Shaped.l0 k 0 x291000)
def monikerref4_Shaped.l0 : Nat → Int → List (S47) → Option (Bool)
  | 0, _, _ => none
  | k + 1, x3, x291000 => if x3 < (x291000.length : Int) then ((monikerref4_Kids.f k x291000 x3).bind fun bt292 => (if bt292.2 = true then (if 0 ≤ x3 then (if (wrap64 ((rd_T47 x291000 x3).f0)) ≥ 58 then (some false) else (monikerref4_Shaped.l0 k (wrap64 (x3 + 1)) x291000)) else (none)) else (some false))) else (some true)
end
def monikerref4_Shaped.f (k : Nat) (l0_0 : List (S47)) : Option (Bool) := if (l0_0.length : Int) = 0 then (monikerref4_Shaped.j0 k true l0_0) else (if 0 < (l0_0.length : Int) then (monikerref4_Shaped.j0 k (((rd_T47 l0_0 0).f3) != (l0_0.length : Int)) l0_0) else (none))
set_option maxHeartbeats 8000000 in
set_option maxRecDepth 100000 in
theorem monikerref4_Shaped.calls (k : Nat) (A0_0 : Option Addr) (c0_0 : Nat) (l0_0 : List (S47)) (r : Bool) (w : World) (hr0_0 : Kd.C k47 w A0_0 l0_0.length l0_0) (hc0_0 : l0_0.length ≤ c0_0) (h : monikerref4_Shaped.f k l0_0 = some r) :
    Calls Try.prog 59 #[.agg #[.slice A0_0 l0_0.length c0_0]] w fun e w' => e = .returned (.bool r) ∧ Below w.heap.size w w' := by
  have hu25 := Try.underlying25
  have HR0_0 := Aside0.mk hr0_0
  have HC0_0 := Aside0.mk hc0_0
  clear hr0_0 hc0_0
  have HB := Aside0.mk (Below.refl w.heap.size w)
  have H : (if (l0_0.length : Int) = 0 then (monikerref4_Shaped.j0 k true l0_0) else (if 0 < (l0_0.length : Int) then (monikerref4_Shaped.j0 k (((rd_T47 l0_0 0).f3) != (l0_0.length : Int)) l0_0) else (none))) = some r := h
  clear h
  have HC2 := Aside0.mk H
  clear H
  go_enter Try.func59, Try.ntmps59
  go_upto_region 1 with (first | ((with_reducible refine gate_dst (N := 1) rfl ?_); (try (refine gate_guard (by rfl) ?_; dsimp only)); refine box_event ?hg (N := 1) ?hd (cs := #[.slice A0_0 l0_0.length c0_0]) (t := 25) ?hr ?_; (case hd => rfl); (case hg => rfl); (case hr => first | (go_simp; done) | (go_simp; rfl)); intro gb290 hg w3 hbox hb; have n0_ := Aside0.mk (below_step (by repeat (first | (with_reducible first | exact HB.out | apply below_alloc | apply pw_below_drewN | apply below_drew1) | exact HB.out)) hb); have n1_ := Aside0.mk (hbox); have n2_ := Aside0.mk ((by rw [hg]; exact (below_size (by repeat (first | (with_reducible first | exact HB.out | apply below_alloc | apply pw_below_drewN | apply below_drew1) | exact HB.out))) : w.heap.size ≤ gb290)); have n3_ := Aside0.mk ((by rw [hg]; exact (below_size (by repeat (first | (with_reducible first | exact HB.out | apply below_alloc | apply pw_below_drewN | apply below_drew1) | exact HB.out))) : w.heap.size ≤ gb290)); clear HB; have HB := n0_; have BK290 := n1_; have GW290 := n2_; have GE290 := n3_; clear n0_ n1_ n2_ n3_; clear hb hbox hg))
  repeat (go_quiet (first | ((with_reducible refine gate_dst (N := 1) rfl ?_); (try (refine gate_guard (by rfl) ?_; dsimp only)); refine box_event ?hg (N := 1) ?hd (cs := #[.slice A0_0 l0_0.length c0_0]) (t := 25) ?hr ?_; (case hd => rfl); (case hg => rfl); (case hr => first | (go_simp; done) | (go_simp; rfl)); intro gb290 hg w3 hbox hb; have n0_ := Aside0.mk (below_step (by repeat (first | (with_reducible first | exact HB.out | apply below_alloc | apply pw_below_drewN | apply below_drew1) | exact HB.out)) hb); have n1_ := Aside0.mk (hbox); have n2_ := Aside0.mk ((by rw [hg]; exact (below_size (by repeat (first | (with_reducible first | exact HB.out | apply below_alloc | apply pw_below_drewN | apply below_drew1) | exact HB.out))) : w.heap.size ≤ gb290)); have n3_ := Aside0.mk ((by rw [hg]; exact (below_size (by repeat (first | (with_reducible first | exact HB.out | apply below_alloc | apply pw_below_drewN | apply below_drew1) | exact HB.out))) : w.heap.size ≤ gb290)); clear HB; have HB := n0_; have BK290 := n1_; have GW290 := n2_; have GE290 := n3_; clear n0_ n1_ n2_ n3_; clear hb hbox hg)); go_upto_region 1 with (first | ((with_reducible refine gate_dst (N := 1) rfl ?_); (try (refine gate_guard (by rfl) ?_; dsimp only)); refine box_event ?hg (N := 1) ?hd (cs := #[.slice A0_0 l0_0.length c0_0]) (t := 25) ?hr ?_; (case hd => rfl); (case hg => rfl); (case hr => first | (go_simp; done) | (go_simp; rfl)); intro gb290 hg w3 hbox hb; have n0_ := Aside0.mk (below_step (by repeat (first | (with_reducible first | exact HB.out | apply below_alloc | apply pw_below_drewN | apply below_drew1) | exact HB.out)) hb); have n1_ := Aside0.mk (hbox); have n2_ := Aside0.mk ((by rw [hg]; exact (below_size (by repeat (first | (with_reducible first | exact HB.out | apply below_alloc | apply pw_below_drewN | apply below_drew1) | exact HB.out))) : w.heap.size ≤ gb290)); have n3_ := Aside0.mk ((by rw [hg]; exact (below_size (by repeat (first | (with_reducible first | exact HB.out | apply below_alloc | apply pw_below_drewN | apply below_drew1) | exact HB.out))) : w.heap.size ≤ gb290)); clear HB; have HB := n0_; have BK290 := n1_; have GW290 := n2_; have GE290 := n3_; clear n0_ n1_ n2_ n3_; clear hb hbox hg)))
  (try simp only [Act.put, List.setIfInBounds_toArray, List.set_cons_zero, List.set_cons_succ])
  go_cut [20] (fun v20 wc => ∃ (kq : Nat) (x20_1 : Bool), v20 = .bool x20_1 ∧ Aside0 (monikerref4_Shaped.j0 kq x20_1 l0_0 = some r) ∧ Aside0 (kq ≤ k) ∧ Aside0 (wc.heap[gb290]? = some (.cells #[(.slice A0_0 l0_0.length c0_0)] 25 (0, 0))) ∧ Aside0 (Below w.heap.size w wc))
  case first =>
    have H := HC2.out
    clear HC2
    by_cases c4 : (l0_0.length : Int) = 0
    · rw [if_pos c4] at H
      have c4b0 : ((l0_0.length : Int) == 0) = true := beq_iff_eq.mpr c4
      have c4b1 : ((l0_0.length : Int) != 0) = false := bne_eq_false_iff_eq.mpr c4
      clear c4
      (first | rw [c4b0] | (simp only [i64_w, i32_w]; rw [c4b0]) | skip)
      have H' := Aside0.mk H
      clear H
      have hcz5_0 : w3.cell? ⟨gb290, 0, none⟩ = some (.slice A0_0 l0_0.length c0_0) := (blk_cell BK290.out 0).trans rfl
      have hfz5_0 := blk_frozen BK290.out 0
      go_wp2
      repeat (go_quiet (fail); try go_wp2)
      go_meet
      case rel => exact ⟨_, (true), (by first | rfl | (simp; done) | (simp [*]; done)), H', ⟨by first | omega | exact Nat.le_refl _⟩, ⟨by (with_reducible repeat (first | refine blk_drewN ?_ _ | refine blk_drew ?_ | refine blk_alloc ?_ _)); exact BK290.out⟩, ⟨by repeat (first | (with_reducible first | exact HB.out | apply below_alloc | apply pw_below_drewN | apply below_drew1 | refine below_set ?_ GE290.out) | exact HB.out)⟩⟩
    · rw [if_neg c4] at H
      have c4b0 : ((l0_0.length : Int) == 0) = false := beq_eq_false_iff_ne.mpr c4
      have c4b1 : ((l0_0.length : Int) != 0) = true := bne_iff_ne.mpr c4
      have c4b2 : ¬ (l0_0 = []) := fun h_ => c4 (by rw [h_]; rfl)
      (first | rw [c4b0] | (simp only [i64_w, i32_w]; rw [c4b0]) | skip)
      by_cases c6 : 0 < (l0_0.length : Int)
      · rw [if_pos c6] at H
        have c6b0 : decide (0 < (l0_0.length : Int)) = true := decide_eq_true c6
        have c6b1 : decide (0 < l0_0.length) = true := decide_eq_true (by omega)
        clear c6
        have H' := Aside0.mk H
        clear H
        have hcz7_0 : w3.cell? ⟨gb290, 0, none⟩ = some (.slice A0_0 l0_0.length c0_0) := (blk_cell BK290.out 0).trans rfl
        have hfz7_0 := blk_frozen BK290.out 0
        have p291 : 0 ≤ (0 : Int) := (by omega)
        have q291 : 0 < (l0_0.length : Int) := of_decide_eq_true (by first | (with_reducible assumption) | assumption)
        obtain ⟨ad291, e291, hx291_0, hx291_1, hx291_2, hx291_3⟩ := at_T47 HR0_0.out 0 p291 q291
        cases e291
        have qi291 : (0 < l0_0.length) = True := eq_true (by omega)
        (try rw [show ((0 : Int)).toNat = 0 from rfl] at hx291_0)
        (try rw [show 0 * 4 = 0 from rfl] at hx291_0)
        (try rw [Addr.add_zero'] at hx291_0)
        (try rw [show ((0 : Int)).toNat = 0 from rfl] at hx291_1)
        (try rw [show 0 * 4 = 0 from rfl] at hx291_1)
        (try rw [Addr.add_zero'] at hx291_1)
        (try rw [show ((0 : Int)).toNat = 0 from rfl] at hx291_2)
        (try rw [show 0 * 4 = 0 from rfl] at hx291_2)
        (try rw [Addr.add_zero'] at hx291_2)
        (try rw [show ((0 : Int)).toNat = 0 from rfl] at hx291_3)
        (try rw [show 0 * 4 = 0 from rfl] at hx291_3)
        (try rw [Addr.add_zero'] at hx291_3)
        replace hx291_0 := (HB.out.cell (World.block_lt_of_cell? w _ hx291_0)).trans hx291_0
        replace hx291_1 := (HB.out.cell (World.block_lt_of_cell? w _ hx291_1)).trans hx291_1
        replace hx291_2 := (HB.out.cell (World.block_lt_of_cell? w _ hx291_2)).trans hx291_2
        replace hx291_3 := (HB.out.cell (World.block_lt_of_cell? w _ hx291_3)).trans hx291_3
        replace p291 := eq_true p291
        replace q291 := eq_true q291
        go_wp2
        repeat (go_quiet (fail); try go_wp2)
        go_meet
        case rel => exact ⟨_, ((((rd_T47 l0_0 0).f3) != (l0_0.length : Int))), (by first | rfl | (simp; done) | (simp [*]; done)), H', ⟨by first | omega | exact Nat.le_refl _⟩, ⟨by (with_reducible repeat (first | refine blk_drewN ?_ _ | refine blk_drew ?_ | refine blk_alloc ?_ _)); exact BK290.out⟩, ⟨by repeat (first | (with_reducible first | exact HB.out | apply below_alloc | apply pw_below_drewN | apply below_drew1 | refine below_set ?_ GE290.out) | exact HB.out)⟩⟩
      · rw [if_neg c6] at H
        exact absurd H (by simp)
  case rest =>
    clear HC2
    try clear p2
    try clear q2
    try clear hx2
    try clear qi2
    try clear c4
    try clear c4b0
    try clear c4b1
    try clear c4b2
    try clear c5
    try clear c6
    try clear c6b0
    try clear c6b1
    try clear hcz5_0
    try clear hcz7_0
    try clear hfz5_0
    try clear hfz7_0
    try clear hx291_0
    try clear hx291_1
    try clear hx291_2
    try clear hx291_3
    try clear p291
    try clear q291
    obtain ⟨kq, x20_1, rfl, HA, HJ1, BK290, HB⟩ := hcut
    cases kq with
    | zero => exact absurd HA.out (by simp [monikerref4_Shaped.j0])
    | succ kj1 =>
      have H := HA.out
      clear HA
      simp only [monikerref4_Shaped.j0] at H
      by_cases c8 : x20_1 = true
      · subst c8
        have H1 : (some false) = some r := by rw [if_pos rfl] at H; exact H
        clear H
        have H := H1
        clear H1
        obtain rfl := Option.some.inj H
        go_wp2
        repeat (go_quiet (fail); try go_wp2)
        go_ret
        exact ⟨by first | rfl | (simp [errW_none, errW_some] <;> rfl) | (simp [*, errW_none, errW_some] <;> rfl), by repeat (first | (with_reducible first | exact HB.out | apply below_alloc | apply pw_below_drewN | apply below_drew1 | refine below_set ?_ GE290.out) | exact HB.out)⟩
      · replace c8 := Bool.eq_false_iff.mpr c8
        subst c8
        have H1 : (monikerref4_Shaped.l0 kj1 0 l0_0) = some r := by rw [if_neg (show ¬ (false = true) by decide)] at H; exact H
        clear H
        have H := H1
        clear H1
        have H' := Aside0.mk H
        clear H
        go_wp2
        repeat (go_quiet (fail); try go_wp2)
        go_loopg [3] kj1 (fun kq v3 w' => ∃ (x3_2 : Int), v3 = .int .i64 x3_2 ∧ Aside0 (monikerref4_Shaped.l0 kq x3_2 l0_0 = some r) ∧ Aside0 (kq ≤ kj1) ∧ Aside0 (w'.heap[gb290]? = some (.cells #[(.slice A0_0 l0_0.length c0_0)] 25 (0, 0))) ∧ Aside0 (Below w.heap.size w w'))
        case atStart => exact ⟨(0), (by first | rfl | (simp; done) | (simp [*]; done)), H', ⟨Nat.le_refl _⟩, ⟨by (with_reducible repeat (first | refine blk_drewN ?_ _ | refine blk_drew ?_ | refine blk_alloc ?_ _)); exact BK290.out⟩, ⟨by repeat (first | (with_reducible first | exact HB.out | apply below_alloc | apply pw_below_drewN | apply below_drew1 | refine below_set ?_ GE290.out) | exact HB.out)⟩⟩
        case round =>
          clear H'
          try clear p2
          try clear q2
          try clear hx2
          try clear qi2
          try clear c4
          try clear c4b0
          try clear c4b1
          try clear c4b2
          try clear c5
          try clear c6
          try clear c6b0
          try clear c6b1
          try clear c8
          try clear hcz5_0
          try clear hcz7_0
          try clear hfz5_0
          try clear hfz7_0
          try clear hx291_0
          try clear hx291_1
          try clear hx291_2
          try clear hx291_3
          try clear p2
          try clear p291
          try clear q2
          try clear q291
          obtain ⟨x3_2, rfl, HA, HK2, BK290, HB⟩ := hrel
          cases gk with
          | zero => exact absurd HA.out (by simp [monikerref4_Shaped.l0])
          | succ k2 =>
            have H := HA.out
            clear HA
            simp only [monikerref4_Shaped.l0] at H
            by_cases c9 : x3_2 < (l0_0.length : Int)
            · rw [if_pos c9] at H
              have c9b0 : decide (x3_2 < (l0_0.length : Int)) = true := decide_eq_true c9
              clear c9
              replace H := Option.bind_eq_some_iff.mp H
              obtain ⟨⟨t292, t295⟩, A100, H⟩ := H
              replace H : (if t295 = true then (if 0 ≤ x3_2 then (if (wrap64 ((rd_T47 l0_0 x3_2).f0)) ≥ 58 then (some false) else (monikerref4_Shaped.l0 k2 (wrap64 (x3_2 + 1)) l0_0)) else (none)) else (some false)) = some r := H
              have A10 := Aside0.mk A100
              clear A100
              by_cases c11 : t295 = true
              · subst c11
                have H1 : (if 0 ≤ x3_2 then (if (wrap64 ((rd_T47 l0_0 x3_2).f0)) ≥ 58 then (some false) else (monikerref4_Shaped.l0 k2 (wrap64 (x3_2 + 1)) l0_0)) else (none)) = some r := by rw [if_pos rfl] at H; exact H
                clear H
                have H := H1
                clear H1
                by_cases c12 : 0 ≤ x3_2
                · rw [if_pos c12] at H
                  have c12b0 : decide (0 ≤ x3_2) = true := decide_eq_true c12
                  clear c12
                  by_cases c13 : (wrap64 ((rd_T47 l0_0 x3_2).f0)) ≥ 58
                  · rw [if_pos c13] at H
                    have c13b0 : decide (58 ≤ (wrap64 ((rd_T47 l0_0 x3_2).f0))) = true := decide_eq_true c13
                    clear c13
                    obtain rfl := Option.some.inj H
                    have hcz14_0 : wr.cell? ⟨gb290, 0, none⟩ = some (.slice A0_0 l0_0.length c0_0) := (blk_cell BK290.out 0).trans rfl
                    have hfz14_0 := blk_frozen BK290.out 0
                    go_wp2_with (first | (go_at_call 36; (with_reducible refine (monikerref4_Kids.calls k2 _ _ l0_0 x3_2 t292 true _ ?side1 ?side2 A10.out).mono ?_); (case side1 => repeat (first | exact (Kd.C_below HR0_0.out HB.out) | (with_reducible refine Kd.C_alloc ?_ _) | (with_reducible refine Kd.C_drewN ?_ _) | (with_reducible refine Kd.C_drew ?_))); (case side2 => exact HC0_0.out); rintro e w15 ⟨v293, rfl, ho0, hb⟩; have n0_ := Aside0.mk (Kd.R_lower ho0 (below_size (by repeat (first | (with_reducible first | exact HB.out | apply below_alloc | apply pw_below_drewN | apply below_drew1 | refine below_set ?_ GE290.out) | exact HB.out)))); have n1_ := Aside0.mk (blk_below (g := gb290) (o := .cells #[.slice A0_0 l0_0.length c0_0] 25 (0, 0)) (by (with_reducible repeat (first | refine blk_drewN ?_ _ | refine blk_drew ?_ | refine blk_alloc ?_ _)); exact BK290.out) hb); have n2_ := Aside0.mk (below_step (by repeat (first | (with_reducible first | exact HB.out | apply below_alloc | apply pw_below_drewN | apply below_drew1 | refine below_set ?_ GE290.out) | exact HB.out)) hb); clear BK290; clear HB; have HO294 := n0_; have BK290 := n1_; have HB := n2_; clear n0_ n1_ n2_; (try clear hb); (try clear hb2); (try clear hk); (try clear hi); (try clear ho0); have hcz16_0 : w15.cell? ⟨gb290, 0, none⟩ = some (.slice A0_0 l0_0.length c0_0) := (blk_cell BK290.out 0).trans rfl; have hfz16_0 := blk_frozen BK290.out 0; have p296 : 0 ≤ (x3_2 : Int) := of_decide_eq_true (by first | (with_reducible assumption) | assumption); have q296 : x3_2 < (l0_0.length : Int) := of_decide_eq_true (by first | (with_reducible assumption) | assumption); obtain ⟨ad296, e296, hx296_0, hx296_1, hx296_2, hx296_3⟩ := at_T47 HR0_0.out x3_2 p296 q296; cases e296; replace hx296_0 := (HB.out.cell (World.block_lt_of_cell? w _ hx296_0)).trans hx296_0; replace hx296_1 := (HB.out.cell (World.block_lt_of_cell? w _ hx296_1)).trans hx296_1; replace hx296_2 := (HB.out.cell (World.block_lt_of_cell? w _ hx296_2)).trans hx296_2; replace hx296_3 := (HB.out.cell (World.block_lt_of_cell? w _ hx296_3)).trans hx296_3; replace p296 := eq_true p296; replace q296 := eq_true q296))
                    repeat (go_quiet (first | (go_at_call 36; (with_reducible refine (monikerref4_Kids.calls k2 _ _ l0_0 x3_2 t292 true _ ?side1 ?side2 A10.out).mono ?_); (case side1 => repeat (first | exact (Kd.C_below HR0_0.out HB.out) | (with_reducible refine Kd.C_alloc ?_ _) | (with_reducible refine Kd.C_drewN ?_ _) | (with_reducible refine Kd.C_drew ?_))); (case side2 => exact HC0_0.out); rintro e w15 ⟨v293, rfl, ho0, hb⟩; have n0_ := Aside0.mk (Kd.R_lower ho0 (below_size (by repeat (first | (with_reducible first | exact HB.out | apply below_alloc | apply pw_below_drewN | apply below_drew1 | refine below_set ?_ GE290.out) | exact HB.out)))); have n1_ := Aside0.mk (blk_below (g := gb290) (o := .cells #[.slice A0_0 l0_0.length c0_0] 25 (0, 0)) (by (with_reducible repeat (first | refine blk_drewN ?_ _ | refine blk_drew ?_ | refine blk_alloc ?_ _)); exact BK290.out) hb); have n2_ := Aside0.mk (below_step (by repeat (first | (with_reducible first | exact HB.out | apply below_alloc | apply pw_below_drewN | apply below_drew1 | refine below_set ?_ GE290.out) | exact HB.out)) hb); clear BK290; clear HB; have HO294 := n0_; have BK290 := n1_; have HB := n2_; clear n0_ n1_ n2_; (try clear hb); (try clear hb2); (try clear hk); (try clear hi); (try clear ho0); have hcz16_0 : w15.cell? ⟨gb290, 0, none⟩ = some (.slice A0_0 l0_0.length c0_0) := (blk_cell BK290.out 0).trans rfl; have hfz16_0 := blk_frozen BK290.out 0; have p296 : 0 ≤ (x3_2 : Int) := of_decide_eq_true (by first | (with_reducible assumption) | assumption); have q296 : x3_2 < (l0_0.length : Int) := of_decide_eq_true (by first | (with_reducible assumption) | assumption); obtain ⟨ad296, e296, hx296_0, hx296_1, hx296_2, hx296_3⟩ := at_T47 HR0_0.out x3_2 p296 q296; cases e296; replace hx296_0 := (HB.out.cell (World.block_lt_of_cell? w _ hx296_0)).trans hx296_0; replace hx296_1 := (HB.out.cell (World.block_lt_of_cell? w _ hx296_1)).trans hx296_1; replace hx296_2 := (HB.out.cell (World.block_lt_of_cell? w _ hx296_2)).trans hx296_2; replace hx296_3 := (HB.out.cell (World.block_lt_of_cell? w _ hx296_3)).trans hx296_3; replace p296 := eq_true p296; replace q296 := eq_true q296)); try go_wp2_with (first | (go_at_call 36; (with_reducible refine (monikerref4_Kids.calls k2 _ _ l0_0 x3_2 t292 true _ ?side1 ?side2 A10.out).mono ?_); (case side1 => repeat (first | exact (Kd.C_below HR0_0.out HB.out) | (with_reducible refine Kd.C_alloc ?_ _) | (with_reducible refine Kd.C_drewN ?_ _) | (with_reducible refine Kd.C_drew ?_))); (case side2 => exact HC0_0.out); rintro e w15 ⟨v293, rfl, ho0, hb⟩; have n0_ := Aside0.mk (Kd.R_lower ho0 (below_size (by repeat (first | (with_reducible first | exact HB.out | apply below_alloc | apply pw_below_drewN | apply below_drew1 | refine below_set ?_ GE290.out) | exact HB.out)))); have n1_ := Aside0.mk (blk_below (g := gb290) (o := .cells #[.slice A0_0 l0_0.length c0_0] 25 (0, 0)) (by (with_reducible repeat (first | refine blk_drewN ?_ _ | refine blk_drew ?_ | refine blk_alloc ?_ _)); exact BK290.out) hb); have n2_ := Aside0.mk (below_step (by repeat (first | (with_reducible first | exact HB.out | apply below_alloc | apply pw_below_drewN | apply below_drew1 | refine below_set ?_ GE290.out) | exact HB.out)) hb); clear BK290; clear HB; have HO294 := n0_; have BK290 := n1_; have HB := n2_; clear n0_ n1_ n2_; (try clear hb); (try clear hb2); (try clear hk); (try clear hi); (try clear ho0); have hcz16_0 : w15.cell? ⟨gb290, 0, none⟩ = some (.slice A0_0 l0_0.length c0_0) := (blk_cell BK290.out 0).trans rfl; have hfz16_0 := blk_frozen BK290.out 0; have p296 : 0 ≤ (x3_2 : Int) := of_decide_eq_true (by first | (with_reducible assumption) | assumption); have q296 : x3_2 < (l0_0.length : Int) := of_decide_eq_true (by first | (with_reducible assumption) | assumption); obtain ⟨ad296, e296, hx296_0, hx296_1, hx296_2, hx296_3⟩ := at_T47 HR0_0.out x3_2 p296 q296; cases e296; replace hx296_0 := (HB.out.cell (World.block_lt_of_cell? w _ hx296_0)).trans hx296_0; replace hx296_1 := (HB.out.cell (World.block_lt_of_cell? w _ hx296_1)).trans hx296_1; replace hx296_2 := (HB.out.cell (World.block_lt_of_cell? w _ hx296_2)).trans hx296_2; replace hx296_3 := (HB.out.cell (World.block_lt_of_cell? w _ hx296_3)).trans hx296_3; replace p296 := eq_true p296; replace q296 := eq_true q296)))
                    go_ret
                    exact ⟨by first | rfl | (simp [errW_none, errW_some] <;> rfl) | (simp [*, errW_none, errW_some] <;> rfl), by repeat (first | (with_reducible first | exact HB.out | apply below_alloc | apply pw_below_drewN | apply below_drew1 | refine below_set ?_ GE290.out) | exact HB.out)⟩
                  · rw [if_neg c13] at H
                    have c13b0 : decide (58 ≤ (wrap64 ((rd_T47 l0_0 x3_2).f0))) = false := decide_eq_false c13
                    clear c13
                    have H' := Aside0.mk H
                    clear H
                    have hcz17_0 : wr.cell? ⟨gb290, 0, none⟩ = some (.slice A0_0 l0_0.length c0_0) := (blk_cell BK290.out 0).trans rfl
                    have hfz17_0 := blk_frozen BK290.out 0
                    go_wp2_with (first | (go_at_call 36; (with_reducible refine (monikerref4_Kids.calls k2 _ _ l0_0 x3_2 t292 true _ ?side1 ?side2 A10.out).mono ?_); (case side1 => repeat (first | exact (Kd.C_below HR0_0.out HB.out) | (with_reducible refine Kd.C_alloc ?_ _) | (with_reducible refine Kd.C_drewN ?_ _) | (with_reducible refine Kd.C_drew ?_))); (case side2 => exact HC0_0.out); rintro e w18 ⟨v293, rfl, ho0, hb⟩; have n0_ := Aside0.mk (Kd.R_lower ho0 (below_size (by repeat (first | (with_reducible first | exact HB.out | apply below_alloc | apply pw_below_drewN | apply below_drew1 | refine below_set ?_ GE290.out) | exact HB.out)))); have n1_ := Aside0.mk (blk_below (g := gb290) (o := .cells #[.slice A0_0 l0_0.length c0_0] 25 (0, 0)) (by (with_reducible repeat (first | refine blk_drewN ?_ _ | refine blk_drew ?_ | refine blk_alloc ?_ _)); exact BK290.out) hb); have n2_ := Aside0.mk (below_step (by repeat (first | (with_reducible first | exact HB.out | apply below_alloc | apply pw_below_drewN | apply below_drew1 | refine below_set ?_ GE290.out) | exact HB.out)) hb); clear BK290; clear HB; have HO294 := n0_; have BK290 := n1_; have HB := n2_; clear n0_ n1_ n2_; (try clear hb); (try clear hb2); (try clear hk); (try clear hi); (try clear ho0); have hcz19_0 : w18.cell? ⟨gb290, 0, none⟩ = some (.slice A0_0 l0_0.length c0_0) := (blk_cell BK290.out 0).trans rfl; have hfz19_0 := blk_frozen BK290.out 0; have p296 : 0 ≤ (x3_2 : Int) := of_decide_eq_true (by first | (with_reducible assumption) | assumption); have q296 : x3_2 < (l0_0.length : Int) := of_decide_eq_true (by first | (with_reducible assumption) | assumption); obtain ⟨ad296, e296, hx296_0, hx296_1, hx296_2, hx296_3⟩ := at_T47 HR0_0.out x3_2 p296 q296; cases e296; replace hx296_0 := (HB.out.cell (World.block_lt_of_cell? w _ hx296_0)).trans hx296_0; replace hx296_1 := (HB.out.cell (World.block_lt_of_cell? w _ hx296_1)).trans hx296_1; replace hx296_2 := (HB.out.cell (World.block_lt_of_cell? w _ hx296_2)).trans hx296_2; replace hx296_3 := (HB.out.cell (World.block_lt_of_cell? w _ hx296_3)).trans hx296_3; replace p296 := eq_true p296; replace q296 := eq_true q296))
                    repeat (go_quiet (first | (go_at_call 36; (with_reducible refine (monikerref4_Kids.calls k2 _ _ l0_0 x3_2 t292 true _ ?side1 ?side2 A10.out).mono ?_); (case side1 => repeat (first | exact (Kd.C_below HR0_0.out HB.out) | (with_reducible refine Kd.C_alloc ?_ _) | (with_reducible refine Kd.C_drewN ?_ _) | (with_reducible refine Kd.C_drew ?_))); (case side2 => exact HC0_0.out); rintro e w18 ⟨v293, rfl, ho0, hb⟩; have n0_ := Aside0.mk (Kd.R_lower ho0 (below_size (by repeat (first | (with_reducible first | exact HB.out | apply below_alloc | apply pw_below_drewN | apply below_drew1 | refine below_set ?_ GE290.out) | exact HB.out)))); have n1_ := Aside0.mk (blk_below (g := gb290) (o := .cells #[.slice A0_0 l0_0.length c0_0] 25 (0, 0)) (by (with_reducible repeat (first | refine blk_drewN ?_ _ | refine blk_drew ?_ | refine blk_alloc ?_ _)); exact BK290.out) hb); have n2_ := Aside0.mk (below_step (by repeat (first | (with_reducible first | exact HB.out | apply below_alloc | apply pw_below_drewN | apply below_drew1 | refine below_set ?_ GE290.out) | exact HB.out)) hb); clear BK290; clear HB; have HO294 := n0_; have BK290 := n1_; have HB := n2_; clear n0_ n1_ n2_; (try clear hb); (try clear hb2); (try clear hk); (try clear hi); (try clear ho0); have hcz19_0 : w18.cell? ⟨gb290, 0, none⟩ = some (.slice A0_0 l0_0.length c0_0) := (blk_cell BK290.out 0).trans rfl; have hfz19_0 := blk_frozen BK290.out 0; have p296 : 0 ≤ (x3_2 : Int) := of_decide_eq_true (by first | (with_reducible assumption) | assumption); have q296 : x3_2 < (l0_0.length : Int) := of_decide_eq_true (by first | (with_reducible assumption) | assumption); obtain ⟨ad296, e296, hx296_0, hx296_1, hx296_2, hx296_3⟩ := at_T47 HR0_0.out x3_2 p296 q296; cases e296; replace hx296_0 := (HB.out.cell (World.block_lt_of_cell? w _ hx296_0)).trans hx296_0; replace hx296_1 := (HB.out.cell (World.block_lt_of_cell? w _ hx296_1)).trans hx296_1; replace hx296_2 := (HB.out.cell (World.block_lt_of_cell? w _ hx296_2)).trans hx296_2; replace hx296_3 := (HB.out.cell (World.block_lt_of_cell? w _ hx296_3)).trans hx296_3; replace p296 := eq_true p296; replace q296 := eq_true q296)); try go_wp2_with (first | (go_at_call 36; (with_reducible refine (monikerref4_Kids.calls k2 _ _ l0_0 x3_2 t292 true _ ?side1 ?side2 A10.out).mono ?_); (case side1 => repeat (first | exact (Kd.C_below HR0_0.out HB.out) | (with_reducible refine Kd.C_alloc ?_ _) | (with_reducible refine Kd.C_drewN ?_ _) | (with_reducible refine Kd.C_drew ?_))); (case side2 => exact HC0_0.out); rintro e w18 ⟨v293, rfl, ho0, hb⟩; have n0_ := Aside0.mk (Kd.R_lower ho0 (below_size (by repeat (first | (with_reducible first | exact HB.out | apply below_alloc | apply pw_below_drewN | apply below_drew1 | refine below_set ?_ GE290.out) | exact HB.out)))); have n1_ := Aside0.mk (blk_below (g := gb290) (o := .cells #[.slice A0_0 l0_0.length c0_0] 25 (0, 0)) (by (with_reducible repeat (first | refine blk_drewN ?_ _ | refine blk_drew ?_ | refine blk_alloc ?_ _)); exact BK290.out) hb); have n2_ := Aside0.mk (below_step (by repeat (first | (with_reducible first | exact HB.out | apply below_alloc | apply pw_below_drewN | apply below_drew1 | refine below_set ?_ GE290.out) | exact HB.out)) hb); clear BK290; clear HB; have HO294 := n0_; have BK290 := n1_; have HB := n2_; clear n0_ n1_ n2_; (try clear hb); (try clear hb2); (try clear hk); (try clear hi); (try clear ho0); have hcz19_0 : w18.cell? ⟨gb290, 0, none⟩ = some (.slice A0_0 l0_0.length c0_0) := (blk_cell BK290.out 0).trans rfl; have hfz19_0 := blk_frozen BK290.out 0; have p296 : 0 ≤ (x3_2 : Int) := of_decide_eq_true (by first | (with_reducible assumption) | assumption); have q296 : x3_2 < (l0_0.length : Int) := of_decide_eq_true (by first | (with_reducible assumption) | assumption); obtain ⟨ad296, e296, hx296_0, hx296_1, hx296_2, hx296_3⟩ := at_T47 HR0_0.out x3_2 p296 q296; cases e296; replace hx296_0 := (HB.out.cell (World.block_lt_of_cell? w _ hx296_0)).trans hx296_0; replace hx296_1 := (HB.out.cell (World.block_lt_of_cell? w _ hx296_1)).trans hx296_1; replace hx296_2 := (HB.out.cell (World.block_lt_of_cell? w _ hx296_2)).trans hx296_2; replace hx296_3 := (HB.out.cell (World.block_lt_of_cell? w _ hx296_3)).trans hx296_3; replace p296 := eq_true p296; replace q296 := eq_true q296)))
                    go_roundg k2
                    case measure => have := HJ1.out; have := HK2.out; omega
                    case rel => exact ⟨(wrap64 (x3_2 + 1)), (by first | rfl | (simp; done) | (simp [*]; done)), H', ⟨by have := HJ1.out; have := HK2.out; omega⟩, ⟨by (with_reducible repeat (first | refine blk_drewN ?_ _ | refine blk_drew ?_ | refine blk_alloc ?_ _)); exact BK290.out⟩, ⟨by repeat (first | (with_reducible first | exact HB.out | apply below_alloc | apply pw_below_drewN | apply below_drew1 | refine below_set ?_ GE290.out) | exact HB.out)⟩⟩
                · rw [if_neg c12] at H
                  exact absurd H (by simp)
              · replace c11 := Bool.eq_false_iff.mpr c11
                subst c11
                have H1 : (some false) = some r := by rw [if_neg (show ¬ (false = true) by decide)] at H; exact H
                clear H
                have H := H1
                clear H1
                obtain rfl := Option.some.inj H
                have hcz20_0 : wr.cell? ⟨gb290, 0, none⟩ = some (.slice A0_0 l0_0.length c0_0) := (blk_cell BK290.out 0).trans rfl
                have hfz20_0 := blk_frozen BK290.out 0
                go_wp2_with (first | (go_at_call 36; (with_reducible refine (monikerref4_Kids.calls k2 _ _ l0_0 x3_2 t292 false _ ?side1 ?side2 A10.out).mono ?_); (case side1 => repeat (first | exact (Kd.C_below HR0_0.out HB.out) | (with_reducible refine Kd.C_alloc ?_ _) | (with_reducible refine Kd.C_drewN ?_ _) | (with_reducible refine Kd.C_drew ?_))); (case side2 => exact HC0_0.out); rintro e w21 ⟨v293, rfl, ho0, hb⟩; have n0_ := Aside0.mk (Kd.R_lower ho0 (below_size (by repeat (first | (with_reducible first | exact HB.out | apply below_alloc | apply pw_below_drewN | apply below_drew1 | refine below_set ?_ GE290.out) | exact HB.out)))); have n1_ := Aside0.mk (blk_below (g := gb290) (o := .cells #[.slice A0_0 l0_0.length c0_0] 25 (0, 0)) (by (with_reducible repeat (first | refine blk_drewN ?_ _ | refine blk_drew ?_ | refine blk_alloc ?_ _)); exact BK290.out) hb); have n2_ := Aside0.mk (below_step (by repeat (first | (with_reducible first | exact HB.out | apply below_alloc | apply pw_below_drewN | apply below_drew1 | refine below_set ?_ GE290.out) | exact HB.out)) hb); clear BK290; clear HB; have HO294 := n0_; have BK290 := n1_; have HB := n2_; clear n0_ n1_ n2_; (try clear hb); (try clear hb2); (try clear hk); (try clear hi); (try clear ho0)))
                repeat (go_quiet (first | (go_at_call 36; (with_reducible refine (monikerref4_Kids.calls k2 _ _ l0_0 x3_2 t292 false _ ?side1 ?side2 A10.out).mono ?_); (case side1 => repeat (first | exact (Kd.C_below HR0_0.out HB.out) | (with_reducible refine Kd.C_alloc ?_ _) | (with_reducible refine Kd.C_drewN ?_ _) | (with_reducible refine Kd.C_drew ?_))); (case side2 => exact HC0_0.out); rintro e w21 ⟨v293, rfl, ho0, hb⟩; have n0_ := Aside0.mk (Kd.R_lower ho0 (below_size (by repeat (first | (with_reducible first | exact HB.out | apply below_alloc | apply pw_below_drewN | apply below_drew1 | refine below_set ?_ GE290.out) | exact HB.out)))); have n1_ := Aside0.mk (blk_below (g := gb290) (o := .cells #[.slice A0_0 l0_0.length c0_0] 25 (0, 0)) (by (with_reducible repeat (first | refine blk_drewN ?_ _ | refine blk_drew ?_ | refine blk_alloc ?_ _)); exact BK290.out) hb); have n2_ := Aside0.mk (below_step (by repeat (first | (with_reducible first | exact HB.out | apply below_alloc | apply pw_below_drewN | apply below_drew1 | refine below_set ?_ GE290.out) | exact HB.out)) hb); clear BK290; clear HB; have HO294 := n0_; have BK290 := n1_; have HB := n2_; clear n0_ n1_ n2_; (try clear hb); (try clear hb2); (try clear hk); (try clear hi); (try clear ho0))); try go_wp2_with (first | (go_at_call 36; (with_reducible refine (monikerref4_Kids.calls k2 _ _ l0_0 x3_2 t292 false _ ?side1 ?side2 A10.out).mono ?_); (case side1 => repeat (first | exact (Kd.C_below HR0_0.out HB.out) | (with_reducible refine Kd.C_alloc ?_ _) | (with_reducible refine Kd.C_drewN ?_ _) | (with_reducible refine Kd.C_drew ?_))); (case side2 => exact HC0_0.out); rintro e w21 ⟨v293, rfl, ho0, hb⟩; have n0_ := Aside0.mk (Kd.R_lower ho0 (below_size (by repeat (first | (with_reducible first | exact HB.out | apply below_alloc | apply pw_below_drewN | apply below_drew1 | refine below_set ?_ GE290.out) | exact HB.out)))); have n1_ := Aside0.mk (blk_below (g := gb290) (o := .cells #[.slice A0_0 l0_0.length c0_0] 25 (0, 0)) (by (with_reducible repeat (first | refine blk_drewN ?_ _ | refine blk_drew ?_ | refine blk_alloc ?_ _)); exact BK290.out) hb); have n2_ := Aside0.mk (below_step (by repeat (first | (with_reducible first | exact HB.out | apply below_alloc | apply pw_below_drewN | apply below_drew1 | refine below_set ?_ GE290.out) | exact HB.out)) hb); clear BK290; clear HB; have HO294 := n0_; have BK290 := n1_; have HB := n2_; clear n0_ n1_ n2_; (try clear hb); (try clear hb2); (try clear hk); (try clear hi); (try clear ho0))))
                go_ret
                exact ⟨by first | rfl | (simp [errW_none, errW_some] <;> rfl) | (simp [*, errW_none, errW_some] <;> rfl), by repeat (first | (with_reducible first | exact HB.out | apply below_alloc | apply pw_below_drewN | apply below_drew1 | refine below_set ?_ GE290.out) | exact HB.out)⟩
            · rw [if_neg c9] at H
              have c9b0 : decide (x3_2 < (l0_0.length : Int)) = false := decide_eq_false c9
              clear c9
              obtain rfl := Option.some.inj H
              have hcz22_0 : wr.cell? ⟨gb290, 0, none⟩ = some (.slice A0_0 l0_0.length c0_0) := (blk_cell BK290.out 0).trans rfl
              have hfz22_0 := blk_frozen BK290.out 0
              go_wp2
              repeat (go_quiet (fail); try go_wp2)
              go_ret
              exact ⟨by first | rfl | (simp [errW_none, errW_some] <;> rfl) | (simp [*, errW_none, errW_some] <;> rfl), by repeat (first | (with_reducible first | exact HB.out | apply below_alloc | apply pw_below_drewN | apply below_drew1 | refine below_set ?_ GE290.out) | exact HB.out)⟩

end Go.Proofs.Ytodldpdnhcafpaa.F

-- A text of this session's own program (wip/myprint.sh over a changed print tool): functions and their walks
namespace Go.Proofs.Ytodldpdnhcafpaa.F
open Go.RowKit Go.Proofs.YtodldpdnhcafpaaW.PrintWords Go.Proofs.YtodldpdnhcafpaaW.PrintLast Go.Proofs.YtodldpdnhcafpaaW.PrintMore
attribute [local go_sem] max2_int min2_int max_two min_two max_three min_three max_four min_four   -- for this text's walks alone
set_option linter.unusedVariables false
set_option linter.unusedSimpArgs false

/-! ### tree_shaped: function 60 -/
mutual
def tree_shaped.j0 : Nat → Bool → List (S47) → Option (Bool)
  | 0, _, _ => none
  | k + 1, x21, x313000 => if x21 = true then (some false) else (tree_shaped.l0 k ([] : List Int) x313000 (x313000.length : Int) 0 x313000)
def tree_shaped.l0 : Nat → List Int → List (S47) → Int → Int → List (S47) → Option (Bool)
  | 0, _, _, _, _, _ => none
  | k + 1, x3, x23, x24, x25, x313000 => if x25 < x24 then (if 0 ≤ x25 then (if x25 < (x23.length : Int) then (tree_shaped.l1 k x3 x25 x23 x24 x25 x313000 ((rd_T47 x23 x25).f0) ((rd_T47 x23 x25).f1) ((rd_T47 x23 x25).f2) ((rd_T47 x23 x25).f3)) else (none)) else (none)) else (some true)
def tree_shaped.j3 : Nat → List Int → Int → List (S47) → Int → Int → List (S47) → Int → Int → Int → Int → Option (Bool)
  | 0, _, _, _, _, _, _, _, _, _, _ => none
  | k + 1, x3, x4, x23, x24, x25, x313000, x316000, x316001, x316002, x316003 => if (x3.length : Int) > 0 then (if 0 ≤ (wrap64 ((x3.length : Int) - 1)) then (if (wrap64 ((x3.length : Int) - 1)) < (x3.length : Int) then (if x316000 ≥ 58 then (some false) else (if x316003 < 1 then (some false) else (if x316003 > (wrap64 ((rd x3 (wrap64 ((x3.length : Int) - 1))) - x4)) then (some false) else (if x3.length < 17592186044416 then (tree_shaped.l0 k (x3 ++ [wrap64 (x4 + x316003)]) x23 x24 (wrap64 (x25 + 1)) x313000) else (none))))) else (none)) else (none)) else (if x316000 ≥ 58 then (some false) else (if x316003 < 1 then (some false) else (if x316003 > (wrap64 ((x313000.length : Int) - x4)) then (some false) else (if x3.length < 17592186044416 then (tree_shaped.l0 k (x3 ++ [wrap64 (x4 + x316003)]) x23 x24 (wrap64 (x25 + 1)) x313000) else (none)))))
def tree_shaped.l1 : Nat → List Int → Int → List (S47) → Int → Int → List (S47) → Int → Int → Int → Int → Option (Bool)
  | 0, _, _, _, _, _, _, _, _, _, _ => none
  | k + 1, x3, x4, x23, x24, x25, x313000, x316000, x316001, x316002, x316003 => if (x3.length : Int) > 0 then (if 0 ≤ (wrap64 ((x3.length : Int) - 1)) then (if (wrap64 ((x3.length : Int) - 1)) < (x3.length : Int) then (if (rd x3 (wrap64 ((x3.length : Int) - 1))) = x4 then (if (wrap64 ((x3.length : Int) - 1)) ≤ (x3.length : Int) then (tree_shaped.l1 k (x3.take ((wrap64 ((x3.length : Int) - 1)) : Int).toNat) x4 x23 x24 x25 x313000 x316000 x316001 x316002 x316003) else (none)) else (tree_shaped.j3 k x3 x4 x23 x24 x25 x313000 x316000 x316001 x316002 x316003)) else (none)) else (none)) else (tree_shaped.j3 k x3 x4 x23 x24 x25 x313000 x316000 x316001 x316002 x316003)
end
def tree_shaped.f (k : Nat) (l0_0 : List (S47)) : Option (Bool) := if (l0_0.length : Int) = 0 then (tree_shaped.j0 k true l0_0) else (if 0 < (l0_0.length : Int) then (tree_shaped.j0 k (((rd_T47 l0_0 0).f3) != (l0_0.length : Int)) l0_0) else (none))
set_option maxHeartbeats 8000000 in
set_option maxRecDepth 100000 in
theorem tree_shaped.calls (k : Nat) (A0_0 : Option Addr) (c0_0 : Nat) (l0_0 : List (S47)) (r : Bool) (w : World) (hr0_0 : Kd.C k47 w A0_0 l0_0.length l0_0) (hc0_0 : l0_0.length ≤ c0_0) (h : tree_shaped.f k l0_0 = some r) :
    Calls Try.prog 60 #[.agg #[.slice A0_0 l0_0.length c0_0]] w fun e w' => e = .returned (.bool r) ∧ Below w.heap.size w w' := by
  have hu25 := Try.underlying25
  have hu47 := Try.underlying47
  have HR0_0 := Aside0.mk hr0_0
  have HC0_0 := Aside0.mk hc0_0
  clear hr0_0 hc0_0
  have HB := Aside0.mk (Below.refl w.heap.size w)
  have H : (if (l0_0.length : Int) = 0 then (tree_shaped.j0 k true l0_0) else (if 0 < (l0_0.length : Int) then (tree_shaped.j0 k (((rd_T47 l0_0 0).f3) != (l0_0.length : Int)) l0_0) else (none))) = some r := h
  clear h
  have HC2 := Aside0.mk H
  clear H
  go_enter Try.func60, Try.ntmps60
  go_upto_region 1 with (first | ((with_reducible refine gate_dst (N := 1) rfl ?_); (try (refine gate_guard (by rfl) ?_; dsimp only)); refine box_event ?hg (N := 1) ?hd (cs := #[.slice A0_0 l0_0.length c0_0]) (t := 25) ?hr ?_; (case hd => rfl); (case hg => rfl); (case hr => first | (go_simp; done) | (go_simp; rfl)); intro gb312 hg w3 hbox hb; have n0_ := Aside0.mk (below_step (by repeat (first | (with_reducible first | exact HB.out | apply below_alloc | apply pw_below_drewN | apply below_drew1) | exact HB.out)) hb); have n1_ := Aside0.mk (hbox); have n2_ := Aside0.mk ((by rw [hg]; exact (below_size (by repeat (first | (with_reducible first | exact HB.out | apply below_alloc | apply pw_below_drewN | apply below_drew1) | exact HB.out))) : w.heap.size ≤ gb312)); have n3_ := Aside0.mk ((by rw [hg]; exact (below_size (by repeat (first | (with_reducible first | exact HB.out | apply below_alloc | apply pw_below_drewN | apply below_drew1) | exact HB.out))) : w.heap.size ≤ gb312)); clear HB; have HB := n0_; have BK312 := n1_; have GW312 := n2_; have GE312 := n3_; clear n0_ n1_ n2_ n3_; clear hb hbox hg))
  repeat (go_quiet (first | ((with_reducible refine gate_dst (N := 1) rfl ?_); (try (refine gate_guard (by rfl) ?_; dsimp only)); refine box_event ?hg (N := 1) ?hd (cs := #[.slice A0_0 l0_0.length c0_0]) (t := 25) ?hr ?_; (case hd => rfl); (case hg => rfl); (case hr => first | (go_simp; done) | (go_simp; rfl)); intro gb312 hg w3 hbox hb; have n0_ := Aside0.mk (below_step (by repeat (first | (with_reducible first | exact HB.out | apply below_alloc | apply pw_below_drewN | apply below_drew1) | exact HB.out)) hb); have n1_ := Aside0.mk (hbox); have n2_ := Aside0.mk ((by rw [hg]; exact (below_size (by repeat (first | (with_reducible first | exact HB.out | apply below_alloc | apply pw_below_drewN | apply below_drew1) | exact HB.out))) : w.heap.size ≤ gb312)); have n3_ := Aside0.mk ((by rw [hg]; exact (below_size (by repeat (first | (with_reducible first | exact HB.out | apply below_alloc | apply pw_below_drewN | apply below_drew1) | exact HB.out))) : w.heap.size ≤ gb312)); clear HB; have HB := n0_; have BK312 := n1_; have GW312 := n2_; have GE312 := n3_; clear n0_ n1_ n2_ n3_; clear hb hbox hg)); go_upto_region 1 with (first | ((with_reducible refine gate_dst (N := 1) rfl ?_); (try (refine gate_guard (by rfl) ?_; dsimp only)); refine box_event ?hg (N := 1) ?hd (cs := #[.slice A0_0 l0_0.length c0_0]) (t := 25) ?hr ?_; (case hd => rfl); (case hg => rfl); (case hr => first | (go_simp; done) | (go_simp; rfl)); intro gb312 hg w3 hbox hb; have n0_ := Aside0.mk (below_step (by repeat (first | (with_reducible first | exact HB.out | apply below_alloc | apply pw_below_drewN | apply below_drew1) | exact HB.out)) hb); have n1_ := Aside0.mk (hbox); have n2_ := Aside0.mk ((by rw [hg]; exact (below_size (by repeat (first | (with_reducible first | exact HB.out | apply below_alloc | apply pw_below_drewN | apply below_drew1) | exact HB.out))) : w.heap.size ≤ gb312)); have n3_ := Aside0.mk ((by rw [hg]; exact (below_size (by repeat (first | (with_reducible first | exact HB.out | apply below_alloc | apply pw_below_drewN | apply below_drew1) | exact HB.out))) : w.heap.size ≤ gb312)); clear HB; have HB := n0_; have BK312 := n1_; have GW312 := n2_; have GE312 := n3_; clear n0_ n1_ n2_ n3_; clear hb hbox hg)))
  (try simp only [Act.put, List.setIfInBounds_toArray, List.set_cons_zero, List.set_cons_succ])
  go_cut [21] (fun v21 wc => ∃ (kq : Nat) (x21_1 : Bool), v21 = .bool x21_1 ∧ Aside0 (tree_shaped.j0 kq x21_1 l0_0 = some r) ∧ Aside0 (kq ≤ k) ∧ Aside0 (wc.heap[gb312]? = some (.cells #[(.slice A0_0 l0_0.length c0_0)] 25 (0, 0))) ∧ Aside0 (Below w.heap.size w wc))
  case first =>
    have H := HC2.out
    clear HC2
    by_cases c4 : (l0_0.length : Int) = 0
    · rw [if_pos c4] at H
      have c4b0 : ((l0_0.length : Int) == 0) = true := beq_iff_eq.mpr c4
      have c4b1 : ((l0_0.length : Int) != 0) = false := bne_eq_false_iff_eq.mpr c4
      clear c4
      (first | rw [c4b0] | (simp only [i64_w, i32_w]; rw [c4b0]) | skip)
      have H' := Aside0.mk H
      clear H
      have hcz5_0 : w3.cell? ⟨gb312, 0, none⟩ = some (.slice A0_0 l0_0.length c0_0) := (blk_cell BK312.out 0).trans rfl
      have hfz5_0 := blk_frozen BK312.out 0
      go_wp2
      repeat (go_quiet (fail); try go_wp2)
      go_meet
      case rel => exact ⟨_, (true), (by first | rfl | (simp; done) | (simp [*]; done)), H', ⟨by first | omega | exact Nat.le_refl _⟩, ⟨by (with_reducible repeat (first | refine blk_drewN ?_ _ | refine blk_drew ?_ | refine blk_alloc ?_ _)); exact BK312.out⟩, ⟨by repeat (first | (with_reducible first | exact HB.out | apply below_alloc | apply pw_below_drewN | apply below_drew1 | refine below_set ?_ GE312.out) | exact HB.out)⟩⟩
    · rw [if_neg c4] at H
      have c4b0 : ((l0_0.length : Int) == 0) = false := beq_eq_false_iff_ne.mpr c4
      have c4b1 : ((l0_0.length : Int) != 0) = true := bne_iff_ne.mpr c4
      have c4b2 : ¬ (l0_0 = []) := fun h_ => c4 (by rw [h_]; rfl)
      (first | rw [c4b0] | (simp only [i64_w, i32_w]; rw [c4b0]) | skip)
      by_cases c6 : 0 < (l0_0.length : Int)
      · rw [if_pos c6] at H
        have c6b0 : decide (0 < (l0_0.length : Int)) = true := decide_eq_true c6
        have c6b1 : decide (0 < l0_0.length) = true := decide_eq_true (by omega)
        clear c6
        have H' := Aside0.mk H
        clear H
        have hcz7_0 : w3.cell? ⟨gb312, 0, none⟩ = some (.slice A0_0 l0_0.length c0_0) := (blk_cell BK312.out 0).trans rfl
        have hfz7_0 := blk_frozen BK312.out 0
        have p313 : 0 ≤ (0 : Int) := (by omega)
        have q313 : 0 < (l0_0.length : Int) := of_decide_eq_true (by first | (with_reducible assumption) | assumption)
        obtain ⟨ad313, e313, hx313_0, hx313_1, hx313_2, hx313_3⟩ := at_T47 HR0_0.out 0 p313 q313
        cases e313
        have qi313 : (0 < l0_0.length) = True := eq_true (by omega)
        (try rw [show ((0 : Int)).toNat = 0 from rfl] at hx313_0)
        (try rw [show 0 * 4 = 0 from rfl] at hx313_0)
        (try rw [Addr.add_zero'] at hx313_0)
        (try rw [show ((0 : Int)).toNat = 0 from rfl] at hx313_1)
        (try rw [show 0 * 4 = 0 from rfl] at hx313_1)
        (try rw [Addr.add_zero'] at hx313_1)
        (try rw [show ((0 : Int)).toNat = 0 from rfl] at hx313_2)
        (try rw [show 0 * 4 = 0 from rfl] at hx313_2)
        (try rw [Addr.add_zero'] at hx313_2)
        (try rw [show ((0 : Int)).toNat = 0 from rfl] at hx313_3)
        (try rw [show 0 * 4 = 0 from rfl] at hx313_3)
        (try rw [Addr.add_zero'] at hx313_3)
        replace hx313_0 := (HB.out.cell (World.block_lt_of_cell? w _ hx313_0)).trans hx313_0
        replace hx313_1 := (HB.out.cell (World.block_lt_of_cell? w _ hx313_1)).trans hx313_1
        replace hx313_2 := (HB.out.cell (World.block_lt_of_cell? w _ hx313_2)).trans hx313_2
        replace hx313_3 := (HB.out.cell (World.block_lt_of_cell? w _ hx313_3)).trans hx313_3
        replace p313 := eq_true p313
        replace q313 := eq_true q313
        go_wp2
        repeat (go_quiet (fail); try go_wp2)
        go_meet
        case rel => exact ⟨_, ((((rd_T47 l0_0 0).f3) != (l0_0.length : Int))), (by first | rfl | (simp; done) | (simp [*]; done)), H', ⟨by first | omega | exact Nat.le_refl _⟩, ⟨by (with_reducible repeat (first | refine blk_drewN ?_ _ | refine blk_drew ?_ | refine blk_alloc ?_ _)); exact BK312.out⟩, ⟨by repeat (first | (with_reducible first | exact HB.out | apply below_alloc | apply pw_below_drewN | apply below_drew1 | refine below_set ?_ GE312.out) | exact HB.out)⟩⟩
      · rw [if_neg c6] at H
        exact absurd H (by simp)
  case rest =>
    clear HC2
    try clear p2
    try clear p3
    try clear q3
    try clear hx3
    try clear qi3
    try clear c4
    try clear c4b0
    try clear c4b1
    try clear c4b2
    try clear c6
    try clear c6b0
    try clear c6b1
    try clear hcz5_0
    try clear hcz7_0
    try clear hfz5_0
    try clear hfz7_0
    try clear hx313_0
    try clear hx313_1
    try clear hx313_2
    try clear hx313_3
    try clear p313
    try clear q313
    obtain ⟨kq, x21_1, rfl, HA, HJ1, BK312, HB⟩ := hcut
    cases kq with
    | zero => exact absurd HA.out (by simp [tree_shaped.j0])
    | succ kj1 =>
      have H := HA.out
      clear HA
      simp only [tree_shaped.j0] at H
      by_cases c8 : x21_1 = true
      · subst c8
        have H1 : (some false) = some r := by rw [if_pos rfl] at H; exact H
        clear H
        have H := H1
        clear H1
        obtain rfl := Option.some.inj H
        go_wp2
        repeat (go_quiet (fail); try go_wp2)
        go_ret
        exact ⟨by first | rfl | (simp [errW_none, errW_some] <;> rfl) | (simp [*, errW_none, errW_some] <;> rfl), by repeat (first | (with_reducible first | exact HB.out | apply below_alloc | apply pw_below_drewN | apply below_drew1 | refine below_set ?_ GE312.out) | exact HB.out)⟩
      · replace c8 := Bool.eq_false_iff.mpr c8
        subst c8
        have H1 : (tree_shaped.l0 kj1 ([] : List Int) l0_0 (l0_0.length : Int) 0 l0_0) = some r := by rw [if_neg (show ¬ (false = true) by decide)] at H; exact H
        clear H
        have H := H1
        clear H1
        have H' := Aside0.mk H
        clear H
        have hcz9_0 : wc.cell? ⟨gb312, 0, none⟩ = some (.slice A0_0 l0_0.length c0_0) := (blk_cell BK312.out 0).trans rfl
        have hfz9_0 := blk_frozen BK312.out 0
        go_wp2
        repeat (go_quiet (fail); try go_wp2)
        go_loopg [3, 25] kj1 (fun kq v3 v25 w' => ∃ (x3_2 : List Int) (x25_2 : Int), v25 = .int .i64 x25_2 ∧ Aside0 (tree_shaped.l0 kq x3_2 l0_0 (l0_0.length : Int) x25_2 l0_0 = some r) ∧ Aside0 (kq ≤ kj1) ∧ Aside0 (Kd.R (Kd.int .i64) 3 w' w.heap.size (fun _ => True) v3 x3_2) ∧ Aside0 (w'.heap[gb312]? = some (.cells #[(.slice A0_0 l0_0.length c0_0)] 25 (0, 0))) ∧ Aside0 (Below w.heap.size w w'))
        case atStart => exact ⟨(([] : List Int)), (0), (by first | rfl | (simp; done) | (simp [*]; done)), H', ⟨Nat.le_refl _⟩, ⟨by first | exact Kd.R_nil _ _ _ _ _ | exact Kd.N_nil _ _ _ _ _ | exact Kd.V_nil _ _ _ _ _ | exact Kd.Q_nil _ _ _ _ _ | exact Kd.S_nil _ _ _ _ _⟩, ⟨by (with_reducible repeat (first | refine blk_drewN ?_ _ | refine blk_drew ?_ | refine blk_alloc ?_ _)); exact BK312.out⟩, ⟨by repeat (first | (with_reducible first | exact HB.out | apply below_alloc | apply pw_below_drewN | apply below_drew1 | refine below_set ?_ GE312.out) | exact HB.out)⟩⟩
        case round =>
          clear H'
          try clear p2
          try clear p3
          try clear q3
          try clear hx3
          try clear qi3
          try clear c4
          try clear c4b0
          try clear c4b1
          try clear c4b2
          try clear c6
          try clear c6b0
          try clear c6b1
          try clear c8
          try clear hcz5_0
          try clear hcz7_0
          try clear hcz9_0
          try clear hfz5_0
          try clear hfz7_0
          try clear hfz9_0
          try clear hx313_0
          try clear hx313_1
          try clear hx313_2
          try clear hx313_3
          try clear p2
          try clear p3
          try clear p313
          try clear q3
          try clear q313
          obtain ⟨x3_2, x25_2, rfl, HA, HK2, HO_3, BK312, HB⟩ := hrel
          cases gk with
          | zero => exact absurd HA.out (by simp [tree_shaped.l0])
          | succ k2 =>
            have H := HA.out
            clear HA
            simp only [tree_shaped.l0] at H
            by_cases c10 : x25_2 < (l0_0.length : Int)
            · rw [if_pos c10] at H
              have c10b0 : decide (x25_2 < (l0_0.length : Int)) = true := decide_eq_true c10
              clear c10
              by_cases c11 : 0 ≤ x25_2
              · rw [if_pos c11] at H
                have c11b0 : decide (0 ≤ x25_2) = true := decide_eq_true c11
                clear c11
                by_cases c12 : x25_2 < (l0_0.length : Int)
                · rw [if_pos c12] at H
                  have c12b0 : decide (x25_2 < (l0_0.length : Int)) = true := decide_eq_true c12
                  clear c12
                  have HC13 := Aside0.mk H
                  clear H
                  have p314 : 0 ≤ (x25_2 : Int) := of_decide_eq_true (by first | (with_reducible assumption) | assumption)
                  have q314 : x25_2 < (l0_0.length : Int) := of_decide_eq_true (by first | (with_reducible assumption) | assumption)
                  obtain ⟨ad314, e314, hx314_0, hx314_1, hx314_2, hx314_3⟩ := at_T47 HR0_0.out x25_2 p314 q314
                  cases e314
                  replace hx314_0 := (HB.out.cell (World.block_lt_of_cell? w _ hx314_0)).trans hx314_0
                  replace hx314_1 := (HB.out.cell (World.block_lt_of_cell? w _ hx314_1)).trans hx314_1
                  replace hx314_2 := (HB.out.cell (World.block_lt_of_cell? w _ hx314_2)).trans hx314_2
                  replace hx314_3 := (HB.out.cell (World.block_lt_of_cell? w _ hx314_3)).trans hx314_3
                  replace p314 := eq_true p314
                  replace q314 := eq_true q314
                  go_upto_block 2 with (first | ((with_reducible refine gate_dst (N := 5) rfl ?_); (try (refine gate_guard (by rfl) ?_; dsimp only)); refine box_event ?hg (N := 5) ?hd (cs := #[.int .u8 0, .int .i64 0, .int .i64 0, .int .i64 0]) (t := 47) ?hr ?_; (case hd => rfl); (case hg => rfl); (case hr => first | (go_simp; done) | (go_simp; rfl)); intro gb315 hg w14 hbox hb; have n0_ := Aside0.mk (Kd.R_below (by (with_reducible repeat (first | apply Kd.R_alloc | apply Kd.R_drewN | apply Kd.R_drew)); exact HO_3.out) hb); have n1_ := Aside0.mk (blk_below (g := gb312) (o := .cells #[.slice (some ad314) l0_0.length c0_0] 25 (0, 0)) (by (with_reducible repeat (first | refine blk_drewN ?_ _ | refine blk_drew ?_ | refine blk_alloc ?_ _)); exact BK312.out) hb); have n2_ := Aside0.mk (below_step (by repeat (first | (with_reducible first | exact HB.out | apply below_alloc | apply pw_below_drewN | apply below_drew1 | refine below_set ?_ GE312.out) | exact HB.out)) hb); have n3_ := Aside0.mk (hbox); have n4_ := Aside0.mk ((by rw [hg]; exact (below_size (by repeat (first | (with_reducible first | exact HB.out | apply below_alloc | apply pw_below_drewN | apply below_drew1 | refine below_set ?_ GE312.out) | exact HB.out))) : w.heap.size ≤ gb315)); have n5_ := Aside0.mk ((by rw [hg]; exact (below_size (by repeat (first | (with_reducible first | exact HB.out | apply below_alloc | apply pw_below_drewN | apply below_drew1 | refine below_set ?_ GE312.out) | exact HB.out))) : w.heap.size ≤ gb315)); have n6_ := Aside0.mk ((by rw [hg]; exact Nat.ne_of_lt (blk_lt (g := gb312) (o := .cells #[.slice (some ad314) l0_0.length c0_0] 25 (0, 0)) (by (with_reducible repeat (first | refine blk_drewN ?_ _ | refine blk_drew ?_ | refine blk_alloc ?_ _)); exact BK312.out)) : gb312 ≠ gb315)); have n7_ := Aside0.mk ((by rw [hg]; exact Nat.ne_of_gt (blk_lt (g := gb312) (o := .cells #[.slice (some ad314) l0_0.length c0_0] 25 (0, 0)) (by (with_reducible repeat (first | refine blk_drewN ?_ _ | refine blk_drew ?_ | refine blk_alloc ?_ _)); exact BK312.out)) : gb315 ≠ gb312)); clear HO_3; clear BK312; clear HB; have HO_3 := n0_; have BK312 := n1_; have HB := n2_; have BK315 := n3_; have GW315 := n4_; have GE315 := n5_; have NB312_315 := n6_; have NB315_312 := n7_; clear n0_ n1_ n2_ n3_ n4_ n5_ n6_ n7_; clear hb hbox hg; have hnb15 := NB315_312.out; have hnc15 := NB312_315.out; have hcz16_0 : w14.cell? ⟨gb315, 0, none⟩ = some (.int .u8 0) := (blk_cell BK315.out 0).trans rfl; have hcz16_1 : w14.cell? ⟨gb315, 1, none⟩ = some (.int .i64 0) := (blk_cell BK315.out 1).trans rfl; have hcz16_2 : w14.cell? ⟨gb315, 2, none⟩ = some (.int .i64 0) := (blk_cell BK315.out 2).trans rfl; have hcz16_3 : w14.cell? ⟨gb315, 3, none⟩ = some (.int .i64 0) := (blk_cell BK315.out 3).trans rfl; have hfz16_0 := blk_frozen BK315.out 0; have hfz16_1 := blk_frozen BK315.out 1; have hfz16_2 := blk_frozen BK315.out 2; have hfz16_3 := blk_frozen BK315.out 3))
                  repeat (go_quiet (first | ((with_reducible refine gate_dst (N := 5) rfl ?_); (try (refine gate_guard (by rfl) ?_; dsimp only)); refine box_event ?hg (N := 5) ?hd (cs := #[.int .u8 0, .int .i64 0, .int .i64 0, .int .i64 0]) (t := 47) ?hr ?_; (case hd => rfl); (case hg => rfl); (case hr => first | (go_simp; done) | (go_simp; rfl)); intro gb315 hg w14 hbox hb; have n0_ := Aside0.mk (Kd.R_below (by (with_reducible repeat (first | apply Kd.R_alloc | apply Kd.R_drewN | apply Kd.R_drew)); exact HO_3.out) hb); have n1_ := Aside0.mk (blk_below (g := gb312) (o := .cells #[.slice (some ad314) l0_0.length c0_0] 25 (0, 0)) (by (with_reducible repeat (first | refine blk_drewN ?_ _ | refine blk_drew ?_ | refine blk_alloc ?_ _)); exact BK312.out) hb); have n2_ := Aside0.mk (below_step (by repeat (first | (with_reducible first | exact HB.out | apply below_alloc | apply pw_below_drewN | apply below_drew1 | refine below_set ?_ GE312.out) | exact HB.out)) hb); have n3_ := Aside0.mk (hbox); have n4_ := Aside0.mk ((by rw [hg]; exact (below_size (by repeat (first | (with_reducible first | exact HB.out | apply below_alloc | apply pw_below_drewN | apply below_drew1 | refine below_set ?_ GE312.out) | exact HB.out))) : w.heap.size ≤ gb315)); have n5_ := Aside0.mk ((by rw [hg]; exact (below_size (by repeat (first | (with_reducible first | exact HB.out | apply below_alloc | apply pw_below_drewN | apply below_drew1 | refine below_set ?_ GE312.out) | exact HB.out))) : w.heap.size ≤ gb315)); have n6_ := Aside0.mk ((by rw [hg]; exact Nat.ne_of_lt (blk_lt (g := gb312) (o := .cells #[.slice (some ad314) l0_0.length c0_0] 25 (0, 0)) (by (with_reducible repeat (first | refine blk_drewN ?_ _ | refine blk_drew ?_ | refine blk_alloc ?_ _)); exact BK312.out)) : gb312 ≠ gb315)); have n7_ := Aside0.mk ((by rw [hg]; exact Nat.ne_of_gt (blk_lt (g := gb312) (o := .cells #[.slice (some ad314) l0_0.length c0_0] 25 (0, 0)) (by (with_reducible repeat (first | refine blk_drewN ?_ _ | refine blk_drew ?_ | refine blk_alloc ?_ _)); exact BK312.out)) : gb315 ≠ gb312)); clear HO_3; clear BK312; clear HB; have HO_3 := n0_; have BK312 := n1_; have HB := n2_; have BK315 := n3_; have GW315 := n4_; have GE315 := n5_; have NB312_315 := n6_; have NB315_312 := n7_; clear n0_ n1_ n2_ n3_ n4_ n5_ n6_ n7_; clear hb hbox hg; have hnb15 := NB315_312.out; have hnc15 := NB312_315.out; have hcz16_0 : w14.cell? ⟨gb315, 0, none⟩ = some (.int .u8 0) := (blk_cell BK315.out 0).trans rfl; have hcz16_1 : w14.cell? ⟨gb315, 1, none⟩ = some (.int .i64 0) := (blk_cell BK315.out 1).trans rfl; have hcz16_2 : w14.cell? ⟨gb315, 2, none⟩ = some (.int .i64 0) := (blk_cell BK315.out 2).trans rfl; have hcz16_3 : w14.cell? ⟨gb315, 3, none⟩ = some (.int .i64 0) := (blk_cell BK315.out 3).trans rfl; have hfz16_0 := blk_frozen BK315.out 0; have hfz16_1 := blk_frozen BK315.out 1; have hfz16_2 := blk_frozen BK315.out 2; have hfz16_3 := blk_frozen BK315.out 3)); go_upto_block 2 with (first | ((with_reducible refine gate_dst (N := 5) rfl ?_); (try (refine gate_guard (by rfl) ?_; dsimp only)); refine box_event ?hg (N := 5) ?hd (cs := #[.int .u8 0, .int .i64 0, .int .i64 0, .int .i64 0]) (t := 47) ?hr ?_; (case hd => rfl); (case hg => rfl); (case hr => first | (go_simp; done) | (go_simp; rfl)); intro gb315 hg w14 hbox hb; have n0_ := Aside0.mk (Kd.R_below (by (with_reducible repeat (first | apply Kd.R_alloc | apply Kd.R_drewN | apply Kd.R_drew)); exact HO_3.out) hb); have n1_ := Aside0.mk (blk_below (g := gb312) (o := .cells #[.slice (some ad314) l0_0.length c0_0] 25 (0, 0)) (by (with_reducible repeat (first | refine blk_drewN ?_ _ | refine blk_drew ?_ | refine blk_alloc ?_ _)); exact BK312.out) hb); have n2_ := Aside0.mk (below_step (by repeat (first | (with_reducible first | exact HB.out | apply below_alloc | apply pw_below_drewN | apply below_drew1 | refine below_set ?_ GE312.out) | exact HB.out)) hb); have n3_ := Aside0.mk (hbox); have n4_ := Aside0.mk ((by rw [hg]; exact (below_size (by repeat (first | (with_reducible first | exact HB.out | apply below_alloc | apply pw_below_drewN | apply below_drew1 | refine below_set ?_ GE312.out) | exact HB.out))) : w.heap.size ≤ gb315)); have n5_ := Aside0.mk ((by rw [hg]; exact (below_size (by repeat (first | (with_reducible first | exact HB.out | apply below_alloc | apply pw_below_drewN | apply below_drew1 | refine below_set ?_ GE312.out) | exact HB.out))) : w.heap.size ≤ gb315)); have n6_ := Aside0.mk ((by rw [hg]; exact Nat.ne_of_lt (blk_lt (g := gb312) (o := .cells #[.slice (some ad314) l0_0.length c0_0] 25 (0, 0)) (by (with_reducible repeat (first | refine blk_drewN ?_ _ | refine blk_drew ?_ | refine blk_alloc ?_ _)); exact BK312.out)) : gb312 ≠ gb315)); have n7_ := Aside0.mk ((by rw [hg]; exact Nat.ne_of_gt (blk_lt (g := gb312) (o := .cells #[.slice (some ad314) l0_0.length c0_0] 25 (0, 0)) (by (with_reducible repeat (first | refine blk_drewN ?_ _ | refine blk_drew ?_ | refine blk_alloc ?_ _)); exact BK312.out)) : gb315 ≠ gb312)); clear HO_3; clear BK312; clear HB; have HO_3 := n0_; have BK312 := n1_; have HB := n2_; have BK315 := n3_; have GW315 := n4_; have GE315 := n5_; have NB312_315 := n6_; have NB315_312 := n7_; clear n0_ n1_ n2_ n3_ n4_ n5_ n6_ n7_; clear hb hbox hg; have hnb15 := NB315_312.out; have hnc15 := NB312_315.out; have hcz16_0 : w14.cell? ⟨gb315, 0, none⟩ = some (.int .u8 0) := (blk_cell BK315.out 0).trans rfl; have hcz16_1 : w14.cell? ⟨gb315, 1, none⟩ = some (.int .i64 0) := (blk_cell BK315.out 1).trans rfl; have hcz16_2 : w14.cell? ⟨gb315, 2, none⟩ = some (.int .i64 0) := (blk_cell BK315.out 2).trans rfl; have hcz16_3 : w14.cell? ⟨gb315, 3, none⟩ = some (.int .i64 0) := (blk_cell BK315.out 3).trans rfl; have hfz16_0 := blk_frozen BK315.out 0; have hfz16_1 := blk_frozen BK315.out 1; have hfz16_2 := blk_frozen BK315.out 2; have hfz16_3 := blk_frozen BK315.out 3)))
                  (try simp only [Act.put, List.setIfInBounds_toArray, List.set_cons_zero, List.set_cons_succ])
                  go_cut [3] (fun v3 wc => ∃ (kq : Nat) (x3_12 : List Int), Aside0 (tree_shaped.j3 kq x3_12 x25_2 l0_0 (l0_0.length : Int) x25_2 l0_0 ((rd_T47 l0_0 x25_2).f0) ((rd_T47 l0_0 x25_2).f1) ((rd_T47 l0_0 x25_2).f2) ((rd_T47 l0_0 x25_2).f3) = some r) ∧ Aside0 (kq ≤ k2) ∧ Aside0 (Kd.R (Kd.int .i64) 3 wc w.heap.size (fun _ => True) v3 x3_12) ∧ Aside0 (wc.heap[gb312]? = some (.cells #[(.slice (some ad314) l0_0.length c0_0)] 25 (0, 0))) ∧ Aside0 (wc.heap[gb315]? = some (.cells #[.int .u8 ((rd_T47 l0_0 x25_2).f0), .int .i64 ((rd_T47 l0_0 x25_2).f1), .int .i64 ((rd_T47 l0_0 x25_2).f2), .int .i64 ((rd_T47 l0_0 x25_2).f3)] 47 (0, 0))) ∧ Aside0 (Below w.heap.size w wc))
                  case first =>
                    have H := HC13.out
                    clear HC13
                    have H' := Aside0.mk H
                    clear H
                    go_wp2
                    repeat (go_quiet (fail); try go_wp2)
                    go_loopg [3] k2 (fun kq v3 w' => ∃ (x3_3 : List Int), Aside0 (tree_shaped.l1 kq x3_3 x25_2 l0_0 (l0_0.length : Int) x25_2 l0_0 ((rd_T47 l0_0 x25_2).f0) ((rd_T47 l0_0 x25_2).f1) ((rd_T47 l0_0 x25_2).f2) ((rd_T47 l0_0 x25_2).f3) = some r) ∧ Aside0 (kq ≤ k2) ∧ Aside0 (Kd.R (Kd.int .i64) 3 w' w.heap.size (fun _ => True) v3 x3_3) ∧ Aside0 (w'.heap[gb312]? = some (.cells #[(.slice (some ad314) l0_0.length c0_0)] 25 (0, 0))) ∧ Aside0 (w'.heap[gb315]? = some (.cells #[.int .u8 ((rd_T47 l0_0 x25_2).f0), .int .i64 ((rd_T47 l0_0 x25_2).f1), .int .i64 ((rd_T47 l0_0 x25_2).f2), .int .i64 ((rd_T47 l0_0 x25_2).f3)] 47 (0, 0))) ∧ Aside0 (Below w.heap.size w w'))
                    case atStart => exact ⟨(x3_2), H', ⟨Nat.le_refl _⟩, ⟨by (with_reducible repeat (first | apply Kd.R_alloc | apply Kd.R_drewN | apply Kd.R_drew)); exact Kd.R_mono (Kd.R_far (p := ⟨gb315, 3, none⟩) (Kd.R_far (p := ⟨gb315, 2, none⟩) (Kd.R_far (p := ⟨gb315, 1, none⟩) (Kd.R_far (p := ⟨gb315, 0, none⟩) (Kd.R_types HO_3.out BK315.out (by decide)) (fun _ hk => hk.2) (.int .u8 ((rd_T47 l0_0 x25_2).f0))) (fun _ hk => hk.2) (.int .i64 ((rd_T47 l0_0 x25_2).f1))) (fun _ hk => hk.2) (.int .i64 ((rd_T47 l0_0 x25_2).f2))) (fun _ hk => hk.2) (.int .i64 ((rd_T47 l0_0 x25_2).f3))) (fun _ hk => trivial)⟩, ⟨by (with_reducible repeat (first | refine blk_drewN ?_ _ | refine blk_drew ?_ | refine blk_alloc ?_ _)); refine blk_far ?_ NB312_315.out _; (with_reducible repeat (first | refine blk_drewN ?_ _ | refine blk_drew ?_ | refine blk_alloc ?_ _)); refine blk_far ?_ NB312_315.out _; (with_reducible repeat (first | refine blk_drewN ?_ _ | refine blk_drew ?_ | refine blk_alloc ?_ _)); refine blk_far ?_ NB312_315.out _; (with_reducible repeat (first | refine blk_drewN ?_ _ | refine blk_drew ?_ | refine blk_alloc ?_ _)); refine blk_far ?_ NB312_315.out _; (with_reducible repeat (first | refine blk_drewN ?_ _ | refine blk_drew ?_ | refine blk_alloc ?_ _)); exact BK312.out⟩, ⟨by (with_reducible repeat (first | refine blk_drewN ?_ _ | refine blk_drew ?_ | refine blk_alloc ?_ _)); refine blk_put (cs := #[.int .u8 ((rd_T47 l0_0 x25_2).f0), .int .i64 ((rd_T47 l0_0 x25_2).f1), .int .i64 ((rd_T47 l0_0 x25_2).f2), .int .i64 0]) ?_ 3 _ rfl; (with_reducible repeat (first | refine blk_drewN ?_ _ | refine blk_drew ?_ | refine blk_alloc ?_ _)); refine blk_put (cs := #[.int .u8 ((rd_T47 l0_0 x25_2).f0), .int .i64 ((rd_T47 l0_0 x25_2).f1), .int .i64 0, .int .i64 0]) ?_ 2 _ rfl; (with_reducible repeat (first | refine blk_drewN ?_ _ | refine blk_drew ?_ | refine blk_alloc ?_ _)); refine blk_put (cs := #[.int .u8 ((rd_T47 l0_0 x25_2).f0), .int .i64 0, .int .i64 0, .int .i64 0]) ?_ 1 _ rfl; (with_reducible repeat (first | refine blk_drewN ?_ _ | refine blk_drew ?_ | refine blk_alloc ?_ _)); refine blk_put (cs := #[.int .u8 0, .int .i64 0, .int .i64 0, .int .i64 0]) ?_ 0 _ rfl; (with_reducible repeat (first | refine blk_drewN ?_ _ | refine blk_drew ?_ | refine blk_alloc ?_ _)); exact BK315.out⟩, ⟨by repeat (first | (with_reducible first | exact HB.out | apply below_alloc | apply pw_below_drewN | apply below_drew1 | refine below_set ?_ GE312.out | refine below_set ?_ GE315.out) | exact HB.out)⟩⟩
                    case round =>
                      clear H'
                      try clear c1
                      try clear p2
                      try clear p3
                      try clear q3
                      try clear hx3
                      try clear qi3
                      try clear c4
                      try clear c4b0
                      try clear c4b1
                      try clear c4b2
                      try clear c6
                      try clear c6b0
                      try clear c6b1
                      try clear c8
                      try clear c10
                      try clear c10b0
                      try clear c11
                      try clear c11b0
                      try clear c12
                      try clear c12b0
                      try clear c15
                      try clear hcz16_0
                      try clear hcz16_1
                      try clear hcz16_2
                      try clear hcz16_3
                      try clear hcz5_0
                      try clear hcz7_0
                      try clear hcz9_0
                      try clear hfz16_0
                      try clear hfz16_1
                      try clear hfz16_2
                      try clear hfz16_3
                      try clear hfz5_0
                      try clear hfz7_0
                      try clear hfz9_0
                      try clear hx313_0
                      try clear hx313_1
                      try clear hx313_2
                      try clear hx313_3
                      try clear hx314_0
                      try clear hx314_1
                      try clear hx314_2
                      try clear hx314_3
                      try clear p2
                      try clear p3
                      try clear p313
                      try clear p314
                      try clear q3
                      try clear q313
                      try clear q314
                      obtain ⟨x3_3, HA, HK3, HO_3, BK312, BK315, HB⟩ := hrel
                      cases gk with
                      | zero => exact absurd HA.out (by simp [tree_shaped.l1])
                      | succ k3 =>
                        have H := HA.out
                        clear HA
                        simp only [tree_shaped.l1] at H
                        by_cases c17 : (x3_3.length : Int) > 0
                        · rw [if_pos c17] at H
                          have c17b0 : decide (0 < (x3_3.length : Int)) = true := decide_eq_true c17
                          have c17b1 : decide (0 < x3_3.length) = true := decide_eq_true (by omega)
                          clear c17
                          (first | rw [c17b0] | (simp only [i64_w, i32_w]; rw [c17b0]) | skip)
                          obtain ⟨ji18, hji18⟩ : ∃ j_ : Int, (wrap64 ((x3_3.length : Int) - 1)) = j_ := ⟨_, rfl⟩
                          replace H : (if 0 ≤ (ji18) then (if (ji18) < (x3_3.length : Int) then (if (rd x3_3 (ji18)) = x25_2 then (if (ji18) ≤ (x3_3.length : Int) then (tree_shaped.l1 k3 (x3_3.take ((ji18) : Int).toNat) x25_2 l0_0 (l0_0.length : Int) x25_2 l0_0 ((rd_T47 l0_0 x25_2).f0) ((rd_T47 l0_0 x25_2).f1) ((rd_T47 l0_0 x25_2).f2) ((rd_T47 l0_0 x25_2).f3)) else (none)) else (tree_shaped.j3 k3 x3_3 x25_2 l0_0 (l0_0.length : Int) x25_2 l0_0 ((rd_T47 l0_0 x25_2).f0) ((rd_T47 l0_0 x25_2).f1) ((rd_T47 l0_0 x25_2).f2) ((rd_T47 l0_0 x25_2).f3))) else (none)) else (none)) = some r := by first | (rw [hji18] at H; exact H) | (simp only [hji18] at H ⊢; exact H)
                          have hji18w : (IntKind.i64.wrap ((x3_3.length : Int) - 1)) = ji18 := (i64_w _).trans hji18
                          by_cases c19 : 0 ≤ (ji18)
                          · rw [if_pos c19] at H
                            have c19b0 : decide (0 ≤ (ji18)) = true := decide_eq_true c19
                            clear c19
                            by_cases c20 : (ji18) < (x3_3.length : Int)
                            · rw [if_pos c20] at H
                              have c20b0 : decide ((ji18) < (x3_3.length : Int)) = true := decide_eq_true c20
                              clear c20
                              by_cases c21 : (rd x3_3 (ji18)) = x25_2
                              · rw [if_pos c21] at H
                                have c21b0 : ((rd x3_3 (ji18)) == x25_2) = true := beq_iff_eq.mpr c21
                                have c21b1 : ((rd x3_3 (ji18)) != x25_2) = false := bne_eq_false_iff_eq.mpr c21
                                clear c21
                                by_cases c22 : (ji18) ≤ (x3_3.length : Int)
                                · rw [if_pos c22] at H
                                  have c22b0 := eq_true c22
                                  have c22b1 : decide ((ji18) ≤ (x3_3.length : Int)) = true := decide_eq_true c22
                                  clear c22
                                  obtain ⟨y317, hy317⟩ : ∃ y_ : List Int, y_ = (x3_3.take ((ji18) : Int).toNat) := ⟨_, rfl⟩
                                  replace H : (tree_shaped.l1 k3 y317 x25_2 l0_0 (l0_0.length : Int) x25_2 l0_0 ((rd_T47 l0_0 x25_2).f0) ((rd_T47 l0_0 x25_2).f1) ((rd_T47 l0_0 x25_2).f2) ((rd_T47 l0_0 x25_2).f3)) = some r := by first | (rw [hy317]; with_reducible exact H) | (have H2_ := (Option.bind_some _ _).symm.trans H; rw [hy317]; with_reducible exact H2_) | (have H2_ := (Option.bind_some _ _).symm.trans H; with_reducible exact H2_) | with_reducible exact H | (rw [hy317]; exact H) | exact H
                                  have Ny317 := Aside0.mk hy317
                                  clear hy317
                                  have H' := Aside0.mk H
                                  clear H
                                  obtain ⟨Ao23, co23, eo23⟩ := Kd.R_slice HO_3.out
                                  subst eo23
                                  have p316 : 0 ≤ ((ji18) : Int) := of_decide_eq_true (by first | (with_reducible assumption) | assumption)
                                  have q316 : (ji18) < (x3_3.length : Int) := of_decide_eq_true (by first | (with_reducible assumption) | assumption)
                                  obtain ⟨ad316, e316, hx316_0⟩ := Kd.at_int (Kd.R_reads' HO_3.out).2.2 (ji18) p316 q316
                                  cases e316
                                  replace p316 := eq_true p316
                                  replace q316 := eq_true q316
                                  have q24 : ((ji18) : Int) ≤ ((x3_3.length : Int) : Int) := of_decide_eq_true (by first | (with_reducible assumption) | assumption)
                                  obtain ⟨i024, hi024, _, hsz24, _⟩ := info_parts info3
                                  have hcut24 := cut_to (P := Try.prog) 33 3 .i64 Try.underlying33 hi024 (some ad316) x3_3.length co23 (ji18) (of_decide_eq_true (by first | (with_reducible assumption) | assumption)) q24 (Kd.R_reads' HO_3.out).2.1
                                  have hr24 := Kd.R_take (m := ((ji18) : Int).toNat) HO_3.out (by omega)
                                  have hy24 : y317.length = ((ji18) : Int).toNat := (by rw [Ny317.out, List.length_take]; omega)
                                  rw [← Ny317.out] at hr24
                                  rw [← hy24] at hr24 hcut24
                                  clear hy24 hi024 hsz24 HO_3
                                  have HO319 := Aside0.mk hr24
                                  clear hr24
                                  replace q24 := eq_true q24
                                  go_wp2
                                  repeat (go_quiet (fail); try go_wp2)
                                  go_roundg k3
                                  case measure => have := HJ1.out; have := HK2.out; have := HK3.out; omega
                                  case rel => exact ⟨(y317), H', ⟨by have := HJ1.out; have := HK2.out; have := HK3.out; omega⟩, ⟨by (with_reducible repeat (first | apply Kd.R_alloc | apply Kd.R_drewN | apply Kd.R_drew)); exact HO319.out⟩, ⟨by (with_reducible repeat (first | refine blk_drewN ?_ _ | refine blk_drew ?_ | refine blk_alloc ?_ _)); exact BK312.out⟩, ⟨by (with_reducible repeat (first | refine blk_drewN ?_ _ | refine blk_drew ?_ | refine blk_alloc ?_ _)); exact BK315.out⟩, ⟨by repeat (first | (with_reducible first | exact HB.out | apply below_alloc | apply pw_below_drewN | apply below_drew1 | refine below_set ?_ GE312.out | refine below_set ?_ GE315.out) | exact HB.out)⟩⟩
                                · rw [if_neg c22] at H
                                  exact absurd H (by simp)
                              · rw [if_neg c21] at H
                                have c21b0 : ((rd x3_3 (ji18)) == x25_2) = false := beq_eq_false_iff_ne.mpr c21
                                have c21b1 : ((rd x3_3 (ji18)) != x25_2) = true := bne_iff_ne.mpr c21
                                have H' := Aside0.mk H
                                clear H
                                obtain ⟨Ao25, co25, eo25⟩ := Kd.R_slice HO_3.out
                                subst eo25
                                have p316 : 0 ≤ ((ji18) : Int) := of_decide_eq_true (by first | (with_reducible assumption) | assumption)
                                have q316 : (ji18) < (x3_3.length : Int) := of_decide_eq_true (by first | (with_reducible assumption) | assumption)
                                obtain ⟨ad316, e316, hx316_0⟩ := Kd.at_int (Kd.R_reads' HO_3.out).2.2 (ji18) p316 q316
                                cases e316
                                replace p316 := eq_true p316
                                replace q316 := eq_true q316
                                go_wp2
                                repeat (go_quiet (fail); try go_wp2)
                                go_meet
                                case rel => exact ⟨_, (x3_3), H', ⟨by have := HJ1.out; have := HK2.out; have := HK3.out; first | omega | exact Nat.le_refl _⟩, ⟨by (with_reducible repeat (first | apply Kd.R_alloc | apply Kd.R_drewN | apply Kd.R_drew)); exact HO_3.out⟩, ⟨by (with_reducible repeat (first | refine blk_drewN ?_ _ | refine blk_drew ?_ | refine blk_alloc ?_ _)); exact BK312.out⟩, ⟨by (with_reducible repeat (first | refine blk_drewN ?_ _ | refine blk_drew ?_ | refine blk_alloc ?_ _)); exact BK315.out⟩, ⟨by repeat (first | (with_reducible first | exact HB.out | apply below_alloc | apply pw_below_drewN | apply below_drew1 | refine below_set ?_ GE312.out | refine below_set ?_ GE315.out) | exact HB.out)⟩⟩
                            · rw [if_neg c20] at H
                              exact absurd H (by simp)
                          · rw [if_neg c19] at H
                            exact absurd H (by simp)
                        · rw [if_neg c17] at H
                          have c17b0 : decide (0 < (x3_3.length : Int)) = false := decide_eq_false c17
                          have c17b1 : decide (0 < x3_3.length) = false := decide_eq_false (by omega)
                          clear c17
                          (first | rw [c17b0] | (simp only [i64_w, i32_w]; rw [c17b0]) | skip)
                          have H' := Aside0.mk H
                          clear H
                          obtain ⟨Ao26, co26, eo26⟩ := Kd.R_slice HO_3.out
                          subst eo26
                          go_wp2
                          repeat (go_quiet (fail); try go_wp2)
                          go_meet
                          case rel => exact ⟨_, (x3_3), H', ⟨by have := HJ1.out; have := HK2.out; have := HK3.out; first | omega | exact Nat.le_refl _⟩, ⟨by (with_reducible repeat (first | apply Kd.R_alloc | apply Kd.R_drewN | apply Kd.R_drew)); exact HO_3.out⟩, ⟨by (with_reducible repeat (first | refine blk_drewN ?_ _ | refine blk_drew ?_ | refine blk_alloc ?_ _)); exact BK312.out⟩, ⟨by (with_reducible repeat (first | refine blk_drewN ?_ _ | refine blk_drew ?_ | refine blk_alloc ?_ _)); exact BK315.out⟩, ⟨by repeat (first | (with_reducible first | exact HB.out | apply below_alloc | apply pw_below_drewN | apply below_drew1 | refine below_set ?_ GE312.out | refine below_set ?_ GE315.out) | exact HB.out)⟩⟩
                  case rest =>
                    clear HC13
                    try clear c1
                    try clear c2
                    try clear p2
                    try clear q2
                    try clear p3
                    try clear q3
                    try clear hx3
                    try clear qi3
                    try clear c4
                    try clear c4b0
                    try clear c4b1
                    try clear c4b2
                    try clear c6
                    try clear c6b0
                    try clear c6b1
                    try clear p6
                    try clear c8
                    try clear c10
                    try clear c10b0
                    try clear c11
                    try clear c11b0
                    try clear c12
                    try clear c12b0
                    try clear c15
                    try clear c17
                    try clear c17b0
                    try clear c17b1
                    try clear c19
                    try clear c19b0
                    try clear c20
                    try clear c20b0
                    try clear c21
                    try clear c21b0
                    try clear c21b1
                    try clear c22
                    try clear c22b0
                    try clear c22b1
                    try clear q24
                    try clear hcz16_0
                    try clear hcz16_1
                    try clear hcz16_2
                    try clear hcz16_3
                    try clear hcz5_0
                    try clear hcz7_0
                    try clear hcz9_0
                    try clear hfz16_0
                    try clear hfz16_1
                    try clear hfz16_2
                    try clear hfz16_3
                    try clear hfz5_0
                    try clear hfz7_0
                    try clear hfz9_0
                    try clear hx313_0
                    try clear hx313_1
                    try clear hx313_2
                    try clear hx313_3
                    try clear hx314_0
                    try clear hx314_1
                    try clear hx314_2
                    try clear hx314_3
                    try clear hx316_0
                    try clear p2
                    try clear p3
                    try clear p313
                    try clear p314
                    try clear p316
                    try clear q24
                    try clear q3
                    try clear q313
                    try clear q314
                    try clear q316
                    obtain ⟨kq, x3_12, HA, HJ12, HO_3, BK312, BK315, HB⟩ := hcut
                    cases kq with
                    | zero => exact absurd HA.out (by simp [tree_shaped.j3])
                    | succ kj12 =>
                      have H := HA.out
                      clear HA
                      simp only [tree_shaped.j3] at H
                      by_cases c27 : (x3_12.length : Int) > 0
                      · rw [if_pos c27] at H
                        have c27b0 : decide (0 < (x3_12.length : Int)) = true := decide_eq_true c27
                        have c27b1 : decide (0 < x3_12.length) = true := decide_eq_true (by omega)
                        clear c27
                        obtain ⟨ji28, hji28⟩ : ∃ j_ : Int, (wrap64 ((x3_12.length : Int) - 1)) = j_ := ⟨_, rfl⟩
                        replace H : (if 0 ≤ (ji28) then (if (ji28) < (x3_12.length : Int) then (if ((rd_T47 l0_0 x25_2).f0) ≥ 58 then (some false) else (if ((rd_T47 l0_0 x25_2).f3) < 1 then (some false) else (if ((rd_T47 l0_0 x25_2).f3) > (wrap64 ((rd x3_12 (ji28)) - x25_2)) then (some false) else (if x3_12.length < 17592186044416 then (tree_shaped.l0 kj12 (x3_12 ++ [wrap64 (x25_2 + ((rd_T47 l0_0 x25_2).f3))]) l0_0 (l0_0.length : Int) (wrap64 (x25_2 + 1)) l0_0) else (none))))) else (none)) else (none)) = some r := by first | (rw [hji28] at H; exact H) | (simp only [hji28] at H ⊢; exact H)
                        have hji28w : (IntKind.i64.wrap ((x3_12.length : Int) - 1)) = ji28 := (i64_w _).trans hji28
                        by_cases c29 : 0 ≤ (ji28)
                        · rw [if_pos c29] at H
                          have c29b0 : decide (0 ≤ (ji28)) = true := decide_eq_true c29
                          clear c29
                          by_cases c30 : (ji28) < (x3_12.length : Int)
                          · rw [if_pos c30] at H
                            have c30b0 : decide ((ji28) < (x3_12.length : Int)) = true := decide_eq_true c30
                            clear c30
                            by_cases c31 : ((rd_T47 l0_0 x25_2).f0) ≥ 58
                            · rw [if_pos c31] at H
                              have c31b0 : decide (58 ≤ ((rd_T47 l0_0 x25_2).f0)) = true := decide_eq_true c31
                              clear c31
                              obtain rfl := Option.some.inj H
                              have hnb32 := NB312_315.out
                              have hnc32 := NB315_312.out
                              have hcz33_0 : wc.cell? ⟨gb312, 0, none⟩ = some (.slice (some ad314) l0_0.length c0_0) := (blk_cell BK312.out 0).trans rfl
                              have hfz33_0 := blk_frozen BK312.out 0
                              obtain ⟨Ao34, co34, eo34⟩ := Kd.R_slice HO_3.out
                              subst eo34
                              have p320 : 0 ≤ ((ji28) : Int) := of_decide_eq_true (by first | (with_reducible assumption) | assumption)
                              have q320 : (ji28) < (x3_12.length : Int) := of_decide_eq_true (by first | (with_reducible assumption) | assumption)
                              obtain ⟨ad320, e320, hx320_0⟩ := Kd.at_int (Kd.R_reads' HO_3.out).2.2 (ji28) p320 q320
                              cases e320
                              replace p320 := eq_true p320
                              replace q320 := eq_true q320
                              have hcz35_0 : wc.cell? ⟨gb315, 0, none⟩ = some (.int .u8 ((rd_T47 l0_0 x25_2).f0)) := (blk_cell BK315.out 0).trans rfl
                              have hcz35_1 : wc.cell? ⟨gb315, 1, none⟩ = some (.int .i64 ((rd_T47 l0_0 x25_2).f1)) := (blk_cell BK315.out 1).trans rfl
                              have hcz35_2 : wc.cell? ⟨gb315, 2, none⟩ = some (.int .i64 ((rd_T47 l0_0 x25_2).f2)) := (blk_cell BK315.out 2).trans rfl
                              have hcz35_3 : wc.cell? ⟨gb315, 3, none⟩ = some (.int .i64 ((rd_T47 l0_0 x25_2).f3)) := (blk_cell BK315.out 3).trans rfl
                              have hfz35_0 := blk_frozen BK315.out 0
                              have hfz35_1 := blk_frozen BK315.out 1
                              have hfz35_2 := blk_frozen BK315.out 2
                              have hfz35_3 := blk_frozen BK315.out 3
                              go_wp2
                              repeat (go_quiet (fail); try go_wp2)
                              go_ret
                              exact ⟨by first | rfl | (simp [errW_none, errW_some] <;> rfl) | (simp only [← hji28]; first | rfl | (simp [errW_none, errW_some] <;> rfl)) | (simp [*, errW_none, errW_some] <;> rfl), by repeat (first | (with_reducible first | exact HB.out | apply below_alloc | apply pw_below_drewN | apply below_drew1 | refine below_set ?_ GE312.out | refine below_set ?_ GE315.out) | exact HB.out)⟩
                            · rw [if_neg c31] at H
                              have c31b0 : decide (58 ≤ ((rd_T47 l0_0 x25_2).f0)) = false := decide_eq_false c31
                              clear c31
                              by_cases c36 : ((rd_T47 l0_0 x25_2).f3) < 1
                              · rw [if_pos c36] at H
                                have c36b0 : decide (((rd_T47 l0_0 x25_2).f3) < 1) = true := decide_eq_true c36
                                clear c36
                                obtain rfl := Option.some.inj H
                                have hnb37 := NB312_315.out
                                have hnc37 := NB315_312.out
                                have hcz38_0 : wc.cell? ⟨gb312, 0, none⟩ = some (.slice (some ad314) l0_0.length c0_0) := (blk_cell BK312.out 0).trans rfl
                                have hfz38_0 := blk_frozen BK312.out 0
                                obtain ⟨Ao39, co39, eo39⟩ := Kd.R_slice HO_3.out
                                subst eo39
                                have p320 : 0 ≤ ((ji28) : Int) := of_decide_eq_true (by first | (with_reducible assumption) | assumption)
                                have q320 : (ji28) < (x3_12.length : Int) := of_decide_eq_true (by first | (with_reducible assumption) | assumption)
                                obtain ⟨ad320, e320, hx320_0⟩ := Kd.at_int (Kd.R_reads' HO_3.out).2.2 (ji28) p320 q320
                                cases e320
                                replace p320 := eq_true p320
                                replace q320 := eq_true q320
                                have hcz40_0 : wc.cell? ⟨gb315, 0, none⟩ = some (.int .u8 ((rd_T47 l0_0 x25_2).f0)) := (blk_cell BK315.out 0).trans rfl
                                have hcz40_1 : wc.cell? ⟨gb315, 1, none⟩ = some (.int .i64 ((rd_T47 l0_0 x25_2).f1)) := (blk_cell BK315.out 1).trans rfl
                                have hcz40_2 : wc.cell? ⟨gb315, 2, none⟩ = some (.int .i64 ((rd_T47 l0_0 x25_2).f2)) := (blk_cell BK315.out 2).trans rfl
                                have hcz40_3 : wc.cell? ⟨gb315, 3, none⟩ = some (.int .i64 ((rd_T47 l0_0 x25_2).f3)) := (blk_cell BK315.out 3).trans rfl
                                have hfz40_0 := blk_frozen BK315.out 0
                                have hfz40_1 := blk_frozen BK315.out 1
                                have hfz40_2 := blk_frozen BK315.out 2
                                have hfz40_3 := blk_frozen BK315.out 3
                                go_wp2
                                repeat (go_quiet (fail); try go_wp2)
                                go_ret
                                exact ⟨by first | rfl | (simp [errW_none, errW_some] <;> rfl) | (simp only [← hji28]; first | rfl | (simp [errW_none, errW_some] <;> rfl)) | (simp [*, errW_none, errW_some] <;> rfl), by repeat (first | (with_reducible first | exact HB.out | apply below_alloc | apply pw_below_drewN | apply below_drew1 | refine below_set ?_ GE312.out | refine below_set ?_ GE315.out) | exact HB.out)⟩
                              · rw [if_neg c36] at H
                                have c36b0 : decide (((rd_T47 l0_0 x25_2).f3) < 1) = false := decide_eq_false c36
                                clear c36
                                by_cases c41 : ((rd_T47 l0_0 x25_2).f3) > (wrap64 ((rd x3_12 (ji28)) - x25_2))
                                · rw [if_pos c41] at H
                                  have c41b0 : decide ((wrap64 ((rd x3_12 (ji28)) - x25_2)) < ((rd_T47 l0_0 x25_2).f3)) = true := decide_eq_true c41
                                  clear c41
                                  obtain rfl := Option.some.inj H
                                  have hnb42 := NB312_315.out
                                  have hnc42 := NB315_312.out
                                  have hcz43_0 : wc.cell? ⟨gb312, 0, none⟩ = some (.slice (some ad314) l0_0.length c0_0) := (blk_cell BK312.out 0).trans rfl
                                  have hfz43_0 := blk_frozen BK312.out 0
                                  obtain ⟨Ao44, co44, eo44⟩ := Kd.R_slice HO_3.out
                                  subst eo44
                                  have p320 : 0 ≤ ((ji28) : Int) := of_decide_eq_true (by first | (with_reducible assumption) | assumption)
                                  have q320 : (ji28) < (x3_12.length : Int) := of_decide_eq_true (by first | (with_reducible assumption) | assumption)
                                  obtain ⟨ad320, e320, hx320_0⟩ := Kd.at_int (Kd.R_reads' HO_3.out).2.2 (ji28) p320 q320
                                  cases e320
                                  replace p320 := eq_true p320
                                  replace q320 := eq_true q320
                                  have hcz45_0 : wc.cell? ⟨gb315, 0, none⟩ = some (.int .u8 ((rd_T47 l0_0 x25_2).f0)) := (blk_cell BK315.out 0).trans rfl
                                  have hcz45_1 : wc.cell? ⟨gb315, 1, none⟩ = some (.int .i64 ((rd_T47 l0_0 x25_2).f1)) := (blk_cell BK315.out 1).trans rfl
                                  have hcz45_2 : wc.cell? ⟨gb315, 2, none⟩ = some (.int .i64 ((rd_T47 l0_0 x25_2).f2)) := (blk_cell BK315.out 2).trans rfl
                                  have hcz45_3 : wc.cell? ⟨gb315, 3, none⟩ = some (.int .i64 ((rd_T47 l0_0 x25_2).f3)) := (blk_cell BK315.out 3).trans rfl
                                  have hfz45_0 := blk_frozen BK315.out 0
                                  have hfz45_1 := blk_frozen BK315.out 1
                                  have hfz45_2 := blk_frozen BK315.out 2
                                  have hfz45_3 := blk_frozen BK315.out 3
                                  go_wp2
                                  repeat (go_quiet (fail); try go_wp2)
                                  go_ret
                                  exact ⟨by first | rfl | (simp [errW_none, errW_some] <;> rfl) | (simp only [← hji28]; first | rfl | (simp [errW_none, errW_some] <;> rfl)) | (simp [*, errW_none, errW_some] <;> rfl), by repeat (first | (with_reducible first | exact HB.out | apply below_alloc | apply pw_below_drewN | apply below_drew1 | refine below_set ?_ GE312.out | refine below_set ?_ GE315.out) | exact HB.out)⟩
                                · rw [if_neg c41] at H
                                  have c41b0 : decide ((wrap64 ((rd x3_12 (ji28)) - x25_2)) < ((rd_T47 l0_0 x25_2).f3)) = false := decide_eq_false c41
                                  clear c41
                                  by_cases c46 : x3_12.length < 17592186044416
                                  · rw [if_pos c46] at H
                                    have LMc46 := Aside0.mk c46
                                    clear c46
                                    obtain ⟨y321, hy321⟩ : ∃ y_ : List Int, y_ = (x3_12 ++ [wrap64 (x25_2 + ((rd_T47 l0_0 x25_2).f3))]) := ⟨_, rfl⟩
                                    replace H : (tree_shaped.l0 kj12 y321 l0_0 (l0_0.length : Int) (wrap64 (x25_2 + 1)) l0_0) = some r := by first | (rw [hy321]; with_reducible exact H) | (have H2_ := (Option.bind_some _ _).symm.trans H; rw [hy321]; with_reducible exact H2_) | (have H2_ := (Option.bind_some _ _).symm.trans H; with_reducible exact H2_) | with_reducible exact H | (rw [hy321]; exact H) | exact H
                                    have Ny321 := Aside0.mk hy321
                                    clear hy321
                                    have H' := Aside0.mk H
                                    clear H
                                    have hnb47 := NB312_315.out
                                    have hnc47 := NB315_312.out
                                    have hcz48_0 : wc.cell? ⟨gb312, 0, none⟩ = some (.slice (some ad314) l0_0.length c0_0) := (blk_cell BK312.out 0).trans rfl
                                    have hfz48_0 := blk_frozen BK312.out 0
                                    obtain ⟨Ao49, co49, eo49⟩ := Kd.R_slice HO_3.out
                                    subst eo49
                                    have p320 : 0 ≤ ((ji28) : Int) := of_decide_eq_true (by first | (with_reducible assumption) | assumption)
                                    have q320 : (ji28) < (x3_12.length : Int) := of_decide_eq_true (by first | (with_reducible assumption) | assumption)
                                    obtain ⟨ad320, e320, hx320_0⟩ := Kd.at_int (Kd.R_reads' HO_3.out).2.2 (ji28) p320 q320
                                    cases e320
                                    replace p320 := eq_true p320
                                    replace q320 := eq_true q320
                                    have hcz50_0 : wc.cell? ⟨gb315, 0, none⟩ = some (.int .u8 ((rd_T47 l0_0 x25_2).f0)) := (blk_cell BK315.out 0).trans rfl
                                    have hcz50_1 : wc.cell? ⟨gb315, 1, none⟩ = some (.int .i64 ((rd_T47 l0_0 x25_2).f1)) := (blk_cell BK315.out 1).trans rfl
                                    have hcz50_2 : wc.cell? ⟨gb315, 2, none⟩ = some (.int .i64 ((rd_T47 l0_0 x25_2).f2)) := (blk_cell BK315.out 2).trans rfl
                                    have hcz50_3 : wc.cell? ⟨gb315, 3, none⟩ = some (.int .i64 ((rd_T47 l0_0 x25_2).f3)) := (blk_cell BK315.out 3).trans rfl
                                    have hfz50_0 := blk_frozen BK315.out 0
                                    have hfz50_1 := blk_frozen BK315.out 1
                                    have hfz50_2 := blk_frozen BK315.out 2
                                    have hfz50_3 := blk_frozen BK315.out 3
                                    go_wp2_with (first | ((with_reducible refine gate_builtin (b := .append) (xs := #[.tmp 76, .tmp 81]) rfl ?_); (try (refine gate_guard (by rfl) ?_; dsimp only)); at_builtin; refine Kd.R_append (Kd.int .i64) (w0 := w) w.heap.size rfl (.tmp 76) (.tmp 81) 33 3 (.int .i64 0) 8 rfl Try.underlying33 info3 rfl (by decide) (by omega) (.slice (some ad320) x3_12.length co49) x3_12 (wrap64 (x25_2 + ((rd_T47 l0_0 x25_2).f3))) [.int .i64 (wrap64 (x25_2 + ((rd_T47 l0_0 x25_2).f3)))] (fun _ => True) (fun _ => False) rfl rfl ?aP (fun _ hk => hk.elim) ?aF ?aO ?aB ?aS ?aL ?_; (case aP => exact rfl); (case aB => exact (by repeat (first | (with_reducible first | exact HB.out | apply below_alloc | apply pw_below_drewN | apply below_drew1 | refine below_set ?_ GE312.out | refine below_set ?_ GE315.out) | exact HB.out))); (case aF => exact (fun _ _ => trivial)); (case aO => exact (by (with_reducible repeat (first | apply Kd.R_alloc | apply Kd.R_drewN | apply Kd.R_drew)); exact HO_3.out)); (case aS => exact (below_size (by repeat (first | (with_reducible first | exact HB.out | apply below_alloc | apply pw_below_drewN | apply below_drew1 | refine below_set ?_ GE312.out | refine below_set ?_ GE315.out) | exact HB.out)))); (case aL => have := LMc46.out; omega); intro v322 w51 ho hb hg hat; rw [← Ny321.out] at ho; have n0_ := Aside0.mk (blk_grown (g := gb312) (o := .cells #[.slice (some ad314) l0_0.length c0_0] 25 (0, 0)) (by (with_reducible repeat (first | refine blk_drewN ?_ _ | refine blk_drew ?_ | refine blk_alloc ?_ _)); exact BK312.out) hg (Kd.R_ne HO_3.out BK312.out (by decide))); have n1_ := Aside0.mk (blk_grown (g := gb315) (o := .cells #[.int .u8 ((rd_T47 l0_0 x25_2).f0), .int .i64 ((rd_T47 l0_0 x25_2).f1), .int .i64 ((rd_T47 l0_0 x25_2).f2), .int .i64 ((rd_T47 l0_0 x25_2).f3)] 47 (0, 0)) (by (with_reducible repeat (first | refine blk_drewN ?_ _ | refine blk_drew ?_ | refine blk_alloc ?_ _)); exact BK315.out) hg (Kd.R_ne HO_3.out BK315.out (by decide))); have n2_ := Aside0.mk (hb); have n3_ := Aside0.mk (ho); clear BK312; clear BK315; clear HB; clear HO_3; have BK312 := n0_; have BK315 := n1_; have HB := n2_; have HO323 := n3_; clear n0_ n1_ n2_ n3_; clear ho hb hg hat))
                                    repeat (go_quiet (first | ((with_reducible refine gate_builtin (b := .append) (xs := #[.tmp 76, .tmp 81]) rfl ?_); (try (refine gate_guard (by rfl) ?_; dsimp only)); at_builtin; refine Kd.R_append (Kd.int .i64) (w0 := w) w.heap.size rfl (.tmp 76) (.tmp 81) 33 3 (.int .i64 0) 8 rfl Try.underlying33 info3 rfl (by decide) (by omega) (.slice (some ad320) x3_12.length co49) x3_12 (wrap64 (x25_2 + ((rd_T47 l0_0 x25_2).f3))) [.int .i64 (wrap64 (x25_2 + ((rd_T47 l0_0 x25_2).f3)))] (fun _ => True) (fun _ => False) rfl rfl ?aP (fun _ hk => hk.elim) ?aF ?aO ?aB ?aS ?aL ?_; (case aP => exact rfl); (case aB => exact (by repeat (first | (with_reducible first | exact HB.out | apply below_alloc | apply pw_below_drewN | apply below_drew1 | refine below_set ?_ GE312.out | refine below_set ?_ GE315.out) | exact HB.out))); (case aF => exact (fun _ _ => trivial)); (case aO => exact (by (with_reducible repeat (first | apply Kd.R_alloc | apply Kd.R_drewN | apply Kd.R_drew)); exact HO_3.out)); (case aS => exact (below_size (by repeat (first | (with_reducible first | exact HB.out | apply below_alloc | apply pw_below_drewN | apply below_drew1 | refine below_set ?_ GE312.out | refine below_set ?_ GE315.out) | exact HB.out)))); (case aL => have := LMc46.out; omega); intro v322 w51 ho hb hg hat; rw [← Ny321.out] at ho; have n0_ := Aside0.mk (blk_grown (g := gb312) (o := .cells #[.slice (some ad314) l0_0.length c0_0] 25 (0, 0)) (by (with_reducible repeat (first | refine blk_drewN ?_ _ | refine blk_drew ?_ | refine blk_alloc ?_ _)); exact BK312.out) hg (Kd.R_ne HO_3.out BK312.out (by decide))); have n1_ := Aside0.mk (blk_grown (g := gb315) (o := .cells #[.int .u8 ((rd_T47 l0_0 x25_2).f0), .int .i64 ((rd_T47 l0_0 x25_2).f1), .int .i64 ((rd_T47 l0_0 x25_2).f2), .int .i64 ((rd_T47 l0_0 x25_2).f3)] 47 (0, 0)) (by (with_reducible repeat (first | refine blk_drewN ?_ _ | refine blk_drew ?_ | refine blk_alloc ?_ _)); exact BK315.out) hg (Kd.R_ne HO_3.out BK315.out (by decide))); have n2_ := Aside0.mk (hb); have n3_ := Aside0.mk (ho); clear BK312; clear BK315; clear HB; clear HO_3; have BK312 := n0_; have BK315 := n1_; have HB := n2_; have HO323 := n3_; clear n0_ n1_ n2_ n3_; clear ho hb hg hat)); try go_wp2_with (first | ((with_reducible refine gate_builtin (b := .append) (xs := #[.tmp 76, .tmp 81]) rfl ?_); (try (refine gate_guard (by rfl) ?_; dsimp only)); at_builtin; refine Kd.R_append (Kd.int .i64) (w0 := w) w.heap.size rfl (.tmp 76) (.tmp 81) 33 3 (.int .i64 0) 8 rfl Try.underlying33 info3 rfl (by decide) (by omega) (.slice (some ad320) x3_12.length co49) x3_12 (wrap64 (x25_2 + ((rd_T47 l0_0 x25_2).f3))) [.int .i64 (wrap64 (x25_2 + ((rd_T47 l0_0 x25_2).f3)))] (fun _ => True) (fun _ => False) rfl rfl ?aP (fun _ hk => hk.elim) ?aF ?aO ?aB ?aS ?aL ?_; (case aP => exact rfl); (case aB => exact (by repeat (first | (with_reducible first | exact HB.out | apply below_alloc | apply pw_below_drewN | apply below_drew1 | refine below_set ?_ GE312.out | refine below_set ?_ GE315.out) | exact HB.out))); (case aF => exact (fun _ _ => trivial)); (case aO => exact (by (with_reducible repeat (first | apply Kd.R_alloc | apply Kd.R_drewN | apply Kd.R_drew)); exact HO_3.out)); (case aS => exact (below_size (by repeat (first | (with_reducible first | exact HB.out | apply below_alloc | apply pw_below_drewN | apply below_drew1 | refine below_set ?_ GE312.out | refine below_set ?_ GE315.out) | exact HB.out)))); (case aL => have := LMc46.out; omega); intro v322 w51 ho hb hg hat; rw [← Ny321.out] at ho; have n0_ := Aside0.mk (blk_grown (g := gb312) (o := .cells #[.slice (some ad314) l0_0.length c0_0] 25 (0, 0)) (by (with_reducible repeat (first | refine blk_drewN ?_ _ | refine blk_drew ?_ | refine blk_alloc ?_ _)); exact BK312.out) hg (Kd.R_ne HO_3.out BK312.out (by decide))); have n1_ := Aside0.mk (blk_grown (g := gb315) (o := .cells #[.int .u8 ((rd_T47 l0_0 x25_2).f0), .int .i64 ((rd_T47 l0_0 x25_2).f1), .int .i64 ((rd_T47 l0_0 x25_2).f2), .int .i64 ((rd_T47 l0_0 x25_2).f3)] 47 (0, 0)) (by (with_reducible repeat (first | refine blk_drewN ?_ _ | refine blk_drew ?_ | refine blk_alloc ?_ _)); exact BK315.out) hg (Kd.R_ne HO_3.out BK315.out (by decide))); have n2_ := Aside0.mk (hb); have n3_ := Aside0.mk (ho); clear BK312; clear BK315; clear HB; clear HO_3; have BK312 := n0_; have BK315 := n1_; have HB := n2_; have HO323 := n3_; clear n0_ n1_ n2_ n3_; clear ho hb hg hat)))
                                    go_roundg kj12
                                    case measure => have := HJ1.out; have := HK2.out; have := HJ12.out; omega
                                    case rel => exact ⟨(y321), (wrap64 (x25_2 + 1)), (by first | rfl | (simp; done) | (simp [*]; done)), H', ⟨by have := HJ1.out; have := HK2.out; have := HJ12.out; omega⟩, ⟨by (with_reducible repeat (first | apply Kd.R_alloc | apply Kd.R_drewN | apply Kd.R_drew)); exact HO323.out⟩, ⟨by (with_reducible repeat (first | refine blk_drewN ?_ _ | refine blk_drew ?_ | refine blk_alloc ?_ _)); exact BK312.out⟩, ⟨by repeat (first | (with_reducible first | exact HB.out | apply below_alloc | apply pw_below_drewN | apply below_drew1 | refine below_set ?_ GE312.out | refine below_set ?_ GE315.out) | exact HB.out)⟩⟩
                                  · rw [if_neg c46] at H
                                    exact absurd H (by simp)
                          · rw [if_neg c30] at H
                            exact absurd H (by simp)
                        · rw [if_neg c29] at H
                          exact absurd H (by simp)
                      · rw [if_neg c27] at H
                        have c27b0 : decide (0 < (x3_12.length : Int)) = false := decide_eq_false c27
                        have c27b1 : decide (0 < x3_12.length) = false := decide_eq_false (by omega)
                        clear c27
                        by_cases c52 : ((rd_T47 l0_0 x25_2).f0) ≥ 58
                        · rw [if_pos c52] at H
                          have c52b0 : decide (58 ≤ ((rd_T47 l0_0 x25_2).f0)) = true := decide_eq_true c52
                          clear c52
                          obtain rfl := Option.some.inj H
                          have hnb53 := NB312_315.out
                          have hnc53 := NB315_312.out
                          have hcz54_0 : wc.cell? ⟨gb312, 0, none⟩ = some (.slice (some ad314) l0_0.length c0_0) := (blk_cell BK312.out 0).trans rfl
                          have hfz54_0 := blk_frozen BK312.out 0
                          obtain ⟨Ao55, co55, eo55⟩ := Kd.R_slice HO_3.out
                          subst eo55
                          have hcz56_0 : wc.cell? ⟨gb315, 0, none⟩ = some (.int .u8 ((rd_T47 l0_0 x25_2).f0)) := (blk_cell BK315.out 0).trans rfl
                          have hcz56_1 : wc.cell? ⟨gb315, 1, none⟩ = some (.int .i64 ((rd_T47 l0_0 x25_2).f1)) := (blk_cell BK315.out 1).trans rfl
                          have hcz56_2 : wc.cell? ⟨gb315, 2, none⟩ = some (.int .i64 ((rd_T47 l0_0 x25_2).f2)) := (blk_cell BK315.out 2).trans rfl
                          have hcz56_3 : wc.cell? ⟨gb315, 3, none⟩ = some (.int .i64 ((rd_T47 l0_0 x25_2).f3)) := (blk_cell BK315.out 3).trans rfl
                          have hfz56_0 := blk_frozen BK315.out 0
                          have hfz56_1 := blk_frozen BK315.out 1
                          have hfz56_2 := blk_frozen BK315.out 2
                          have hfz56_3 := blk_frozen BK315.out 3
                          go_wp2
                          repeat (go_quiet (fail); try go_wp2)
                          go_ret
                          exact ⟨by first | rfl | (simp [errW_none, errW_some] <;> rfl) | (simp [*, errW_none, errW_some] <;> rfl), by repeat (first | (with_reducible first | exact HB.out | apply below_alloc | apply pw_below_drewN | apply below_drew1 | refine below_set ?_ GE312.out | refine below_set ?_ GE315.out) | exact HB.out)⟩
                        · rw [if_neg c52] at H
                          have c52b0 : decide (58 ≤ ((rd_T47 l0_0 x25_2).f0)) = false := decide_eq_false c52
                          clear c52
                          by_cases c57 : ((rd_T47 l0_0 x25_2).f3) < 1
                          · rw [if_pos c57] at H
                            have c57b0 : decide (((rd_T47 l0_0 x25_2).f3) < 1) = true := decide_eq_true c57
                            clear c57
                            obtain rfl := Option.some.inj H
                            have hnb58 := NB312_315.out
                            have hnc58 := NB315_312.out
                            have hcz59_0 : wc.cell? ⟨gb312, 0, none⟩ = some (.slice (some ad314) l0_0.length c0_0) := (blk_cell BK312.out 0).trans rfl
                            have hfz59_0 := blk_frozen BK312.out 0
                            obtain ⟨Ao60, co60, eo60⟩ := Kd.R_slice HO_3.out
                            subst eo60
                            have hcz61_0 : wc.cell? ⟨gb315, 0, none⟩ = some (.int .u8 ((rd_T47 l0_0 x25_2).f0)) := (blk_cell BK315.out 0).trans rfl
                            have hcz61_1 : wc.cell? ⟨gb315, 1, none⟩ = some (.int .i64 ((rd_T47 l0_0 x25_2).f1)) := (blk_cell BK315.out 1).trans rfl
                            have hcz61_2 : wc.cell? ⟨gb315, 2, none⟩ = some (.int .i64 ((rd_T47 l0_0 x25_2).f2)) := (blk_cell BK315.out 2).trans rfl
                            have hcz61_3 : wc.cell? ⟨gb315, 3, none⟩ = some (.int .i64 ((rd_T47 l0_0 x25_2).f3)) := (blk_cell BK315.out 3).trans rfl
                            have hfz61_0 := blk_frozen BK315.out 0
                            have hfz61_1 := blk_frozen BK315.out 1
                            have hfz61_2 := blk_frozen BK315.out 2
                            have hfz61_3 := blk_frozen BK315.out 3
                            go_wp2
                            repeat (go_quiet (fail); try go_wp2)
                            go_ret
                            exact ⟨by first | rfl | (simp [errW_none, errW_some] <;> rfl) | (simp [*, errW_none, errW_some] <;> rfl), by repeat (first | (with_reducible first | exact HB.out | apply below_alloc | apply pw_below_drewN | apply below_drew1 | refine below_set ?_ GE312.out | refine below_set ?_ GE315.out) | exact HB.out)⟩
                          · rw [if_neg c57] at H
                            have c57b0 : decide (((rd_T47 l0_0 x25_2).f3) < 1) = false := decide_eq_false c57
                            clear c57
                            by_cases c62 : ((rd_T47 l0_0 x25_2).f3) > (wrap64 ((l0_0.length : Int) - x25_2))
                            · rw [if_pos c62] at H
                              have c62b0 : decide ((wrap64 ((l0_0.length : Int) - x25_2)) < ((rd_T47 l0_0 x25_2).f3)) = true := decide_eq_true c62
                              clear c62
                              obtain rfl := Option.some.inj H
                              have hnb63 := NB312_315.out
                              have hnc63 := NB315_312.out
                              have hcz64_0 : wc.cell? ⟨gb312, 0, none⟩ = some (.slice (some ad314) l0_0.length c0_0) := (blk_cell BK312.out 0).trans rfl
                              have hfz64_0 := blk_frozen BK312.out 0
                              obtain ⟨Ao65, co65, eo65⟩ := Kd.R_slice HO_3.out
                              subst eo65
                              have hcz66_0 : wc.cell? ⟨gb315, 0, none⟩ = some (.int .u8 ((rd_T47 l0_0 x25_2).f0)) := (blk_cell BK315.out 0).trans rfl
                              have hcz66_1 : wc.cell? ⟨gb315, 1, none⟩ = some (.int .i64 ((rd_T47 l0_0 x25_2).f1)) := (blk_cell BK315.out 1).trans rfl
                              have hcz66_2 : wc.cell? ⟨gb315, 2, none⟩ = some (.int .i64 ((rd_T47 l0_0 x25_2).f2)) := (blk_cell BK315.out 2).trans rfl
                              have hcz66_3 : wc.cell? ⟨gb315, 3, none⟩ = some (.int .i64 ((rd_T47 l0_0 x25_2).f3)) := (blk_cell BK315.out 3).trans rfl
                              have hfz66_0 := blk_frozen BK315.out 0
                              have hfz66_1 := blk_frozen BK315.out 1
                              have hfz66_2 := blk_frozen BK315.out 2
                              have hfz66_3 := blk_frozen BK315.out 3
                              go_wp2
                              repeat (go_quiet (fail); try go_wp2)
                              go_ret
                              exact ⟨by first | rfl | (simp [errW_none, errW_some] <;> rfl) | (simp [*, errW_none, errW_some] <;> rfl), by repeat (first | (with_reducible first | exact HB.out | apply below_alloc | apply pw_below_drewN | apply below_drew1 | refine below_set ?_ GE312.out | refine below_set ?_ GE315.out) | exact HB.out)⟩
                            · rw [if_neg c62] at H
                              have c62b0 : decide ((wrap64 ((l0_0.length : Int) - x25_2)) < ((rd_T47 l0_0 x25_2).f3)) = false := decide_eq_false c62
                              clear c62
                              by_cases c67 : x3_12.length < 17592186044416
                              · rw [if_pos c67] at H
                                have LMc67 := Aside0.mk c67
                                clear c67
                                obtain ⟨y324, hy324⟩ : ∃ y_ : List Int, y_ = (x3_12 ++ [wrap64 (x25_2 + ((rd_T47 l0_0 x25_2).f3))]) := ⟨_, rfl⟩
                                replace H : (tree_shaped.l0 kj12 y324 l0_0 (l0_0.length : Int) (wrap64 (x25_2 + 1)) l0_0) = some r := by first | (rw [hy324]; with_reducible exact H) | (have H2_ := (Option.bind_some _ _).symm.trans H; rw [hy324]; with_reducible exact H2_) | (have H2_ := (Option.bind_some _ _).symm.trans H; with_reducible exact H2_) | with_reducible exact H | (rw [hy324]; exact H) | exact H
                                have Ny324 := Aside0.mk hy324
                                clear hy324
                                have H' := Aside0.mk H
                                clear H
                                have hnb68 := NB312_315.out
                                have hnc68 := NB315_312.out
                                have hcz69_0 : wc.cell? ⟨gb312, 0, none⟩ = some (.slice (some ad314) l0_0.length c0_0) := (blk_cell BK312.out 0).trans rfl
                                have hfz69_0 := blk_frozen BK312.out 0
                                obtain ⟨Ao70, co70, eo70⟩ := Kd.R_slice HO_3.out
                                subst eo70
                                have hcz71_0 : wc.cell? ⟨gb315, 0, none⟩ = some (.int .u8 ((rd_T47 l0_0 x25_2).f0)) := (blk_cell BK315.out 0).trans rfl
                                have hcz71_1 : wc.cell? ⟨gb315, 1, none⟩ = some (.int .i64 ((rd_T47 l0_0 x25_2).f1)) := (blk_cell BK315.out 1).trans rfl
                                have hcz71_2 : wc.cell? ⟨gb315, 2, none⟩ = some (.int .i64 ((rd_T47 l0_0 x25_2).f2)) := (blk_cell BK315.out 2).trans rfl
                                have hcz71_3 : wc.cell? ⟨gb315, 3, none⟩ = some (.int .i64 ((rd_T47 l0_0 x25_2).f3)) := (blk_cell BK315.out 3).trans rfl
                                have hfz71_0 := blk_frozen BK315.out 0
                                have hfz71_1 := blk_frozen BK315.out 1
                                have hfz71_2 := blk_frozen BK315.out 2
                                have hfz71_3 := blk_frozen BK315.out 3
                                go_wp2_with (first | ((with_reducible refine gate_builtin (b := .append) (xs := #[.tmp 76, .tmp 81]) rfl ?_); (try (refine gate_guard (by rfl) ?_; dsimp only)); at_builtin; refine Kd.R_append (Kd.int .i64) (w0 := w) w.heap.size rfl (.tmp 76) (.tmp 81) 33 3 (.int .i64 0) 8 rfl Try.underlying33 info3 rfl (by decide) (by omega) (.slice Ao70 x3_12.length co70) x3_12 (wrap64 (x25_2 + ((rd_T47 l0_0 x25_2).f3))) [.int .i64 (wrap64 (x25_2 + ((rd_T47 l0_0 x25_2).f3)))] (fun _ => True) (fun _ => False) rfl rfl ?aP (fun _ hk => hk.elim) ?aF ?aO ?aB ?aS ?aL ?_; (case aP => exact rfl); (case aB => exact (by repeat (first | (with_reducible first | exact HB.out | apply below_alloc | apply pw_below_drewN | apply below_drew1 | refine below_set ?_ GE312.out | refine below_set ?_ GE315.out) | exact HB.out))); (case aF => exact (fun _ _ => trivial)); (case aO => exact (by (with_reducible repeat (first | apply Kd.R_alloc | apply Kd.R_drewN | apply Kd.R_drew)); exact HO_3.out)); (case aS => exact (below_size (by repeat (first | (with_reducible first | exact HB.out | apply below_alloc | apply pw_below_drewN | apply below_drew1 | refine below_set ?_ GE312.out | refine below_set ?_ GE315.out) | exact HB.out)))); (case aL => have := LMc67.out; omega); intro v325 w72 ho hb hg hat; rw [← Ny324.out] at ho; have n0_ := Aside0.mk (blk_grown (g := gb312) (o := .cells #[.slice (some ad314) l0_0.length c0_0] 25 (0, 0)) (by (with_reducible repeat (first | refine blk_drewN ?_ _ | refine blk_drew ?_ | refine blk_alloc ?_ _)); exact BK312.out) hg (Kd.R_ne HO_3.out BK312.out (by decide))); have n1_ := Aside0.mk (blk_grown (g := gb315) (o := .cells #[.int .u8 ((rd_T47 l0_0 x25_2).f0), .int .i64 ((rd_T47 l0_0 x25_2).f1), .int .i64 ((rd_T47 l0_0 x25_2).f2), .int .i64 ((rd_T47 l0_0 x25_2).f3)] 47 (0, 0)) (by (with_reducible repeat (first | refine blk_drewN ?_ _ | refine blk_drew ?_ | refine blk_alloc ?_ _)); exact BK315.out) hg (Kd.R_ne HO_3.out BK315.out (by decide))); have n2_ := Aside0.mk (hb); have n3_ := Aside0.mk (ho); clear BK312; clear BK315; clear HB; clear HO_3; have BK312 := n0_; have BK315 := n1_; have HB := n2_; have HO326 := n3_; clear n0_ n1_ n2_ n3_; clear ho hb hg hat))
                                repeat (go_quiet (first | ((with_reducible refine gate_builtin (b := .append) (xs := #[.tmp 76, .tmp 81]) rfl ?_); (try (refine gate_guard (by rfl) ?_; dsimp only)); at_builtin; refine Kd.R_append (Kd.int .i64) (w0 := w) w.heap.size rfl (.tmp 76) (.tmp 81) 33 3 (.int .i64 0) 8 rfl Try.underlying33 info3 rfl (by decide) (by omega) (.slice Ao70 x3_12.length co70) x3_12 (wrap64 (x25_2 + ((rd_T47 l0_0 x25_2).f3))) [.int .i64 (wrap64 (x25_2 + ((rd_T47 l0_0 x25_2).f3)))] (fun _ => True) (fun _ => False) rfl rfl ?aP (fun _ hk => hk.elim) ?aF ?aO ?aB ?aS ?aL ?_; (case aP => exact rfl); (case aB => exact (by repeat (first | (with_reducible first | exact HB.out | apply below_alloc | apply pw_below_drewN | apply below_drew1 | refine below_set ?_ GE312.out | refine below_set ?_ GE315.out) | exact HB.out))); (case aF => exact (fun _ _ => trivial)); (case aO => exact (by (with_reducible repeat (first | apply Kd.R_alloc | apply Kd.R_drewN | apply Kd.R_drew)); exact HO_3.out)); (case aS => exact (below_size (by repeat (first | (with_reducible first | exact HB.out | apply below_alloc | apply pw_below_drewN | apply below_drew1 | refine below_set ?_ GE312.out | refine below_set ?_ GE315.out) | exact HB.out)))); (case aL => have := LMc67.out; omega); intro v325 w72 ho hb hg hat; rw [← Ny324.out] at ho; have n0_ := Aside0.mk (blk_grown (g := gb312) (o := .cells #[.slice (some ad314) l0_0.length c0_0] 25 (0, 0)) (by (with_reducible repeat (first | refine blk_drewN ?_ _ | refine blk_drew ?_ | refine blk_alloc ?_ _)); exact BK312.out) hg (Kd.R_ne HO_3.out BK312.out (by decide))); have n1_ := Aside0.mk (blk_grown (g := gb315) (o := .cells #[.int .u8 ((rd_T47 l0_0 x25_2).f0), .int .i64 ((rd_T47 l0_0 x25_2).f1), .int .i64 ((rd_T47 l0_0 x25_2).f2), .int .i64 ((rd_T47 l0_0 x25_2).f3)] 47 (0, 0)) (by (with_reducible repeat (first | refine blk_drewN ?_ _ | refine blk_drew ?_ | refine blk_alloc ?_ _)); exact BK315.out) hg (Kd.R_ne HO_3.out BK315.out (by decide))); have n2_ := Aside0.mk (hb); have n3_ := Aside0.mk (ho); clear BK312; clear BK315; clear HB; clear HO_3; have BK312 := n0_; have BK315 := n1_; have HB := n2_; have HO326 := n3_; clear n0_ n1_ n2_ n3_; clear ho hb hg hat)); try go_wp2_with (first | ((with_reducible refine gate_builtin (b := .append) (xs := #[.tmp 76, .tmp 81]) rfl ?_); (try (refine gate_guard (by rfl) ?_; dsimp only)); at_builtin; refine Kd.R_append (Kd.int .i64) (w0 := w) w.heap.size rfl (.tmp 76) (.tmp 81) 33 3 (.int .i64 0) 8 rfl Try.underlying33 info3 rfl (by decide) (by omega) (.slice Ao70 x3_12.length co70) x3_12 (wrap64 (x25_2 + ((rd_T47 l0_0 x25_2).f3))) [.int .i64 (wrap64 (x25_2 + ((rd_T47 l0_0 x25_2).f3)))] (fun _ => True) (fun _ => False) rfl rfl ?aP (fun _ hk => hk.elim) ?aF ?aO ?aB ?aS ?aL ?_; (case aP => exact rfl); (case aB => exact (by repeat (first | (with_reducible first | exact HB.out | apply below_alloc | apply pw_below_drewN | apply below_drew1 | refine below_set ?_ GE312.out | refine below_set ?_ GE315.out) | exact HB.out))); (case aF => exact (fun _ _ => trivial)); (case aO => exact (by (with_reducible repeat (first | apply Kd.R_alloc | apply Kd.R_drewN | apply Kd.R_drew)); exact HO_3.out)); (case aS => exact (below_size (by repeat (first | (with_reducible first | exact HB.out | apply below_alloc | apply pw_below_drewN | apply below_drew1 | refine below_set ?_ GE312.out | refine below_set ?_ GE315.out) | exact HB.out)))); (case aL => have := LMc67.out; omega); intro v325 w72 ho hb hg hat; rw [← Ny324.out] at ho; have n0_ := Aside0.mk (blk_grown (g := gb312) (o := .cells #[.slice (some ad314) l0_0.length c0_0] 25 (0, 0)) (by (with_reducible repeat (first | refine blk_drewN ?_ _ | refine blk_drew ?_ | refine blk_alloc ?_ _)); exact BK312.out) hg (Kd.R_ne HO_3.out BK312.out (by decide))); have n1_ := Aside0.mk (blk_grown (g := gb315) (o := .cells #[.int .u8 ((rd_T47 l0_0 x25_2).f0), .int .i64 ((rd_T47 l0_0 x25_2).f1), .int .i64 ((rd_T47 l0_0 x25_2).f2), .int .i64 ((rd_T47 l0_0 x25_2).f3)] 47 (0, 0)) (by (with_reducible repeat (first | refine blk_drewN ?_ _ | refine blk_drew ?_ | refine blk_alloc ?_ _)); exact BK315.out) hg (Kd.R_ne HO_3.out BK315.out (by decide))); have n2_ := Aside0.mk (hb); have n3_ := Aside0.mk (ho); clear BK312; clear BK315; clear HB; clear HO_3; have BK312 := n0_; have BK315 := n1_; have HB := n2_; have HO326 := n3_; clear n0_ n1_ n2_ n3_; clear ho hb hg hat)))
                                go_roundg kj12
                                case measure => have := HJ1.out; have := HK2.out; have := HJ12.out; omega
                                case rel => exact ⟨(y324), (wrap64 (x25_2 + 1)), (by first | rfl | (simp; done) | (simp [*]; done)), H', ⟨by have := HJ1.out; have := HK2.out; have := HJ12.out; omega⟩, ⟨by (with_reducible repeat (first | apply Kd.R_alloc | apply Kd.R_drewN | apply Kd.R_drew)); exact HO326.out⟩, ⟨by (with_reducible repeat (first | refine blk_drewN ?_ _ | refine blk_drew ?_ | refine blk_alloc ?_ _)); exact BK312.out⟩, ⟨by repeat (first | (with_reducible first | exact HB.out | apply below_alloc | apply pw_below_drewN | apply below_drew1 | refine below_set ?_ GE312.out | refine below_set ?_ GE315.out) | exact HB.out)⟩⟩
                              · rw [if_neg c67] at H
                                exact absurd H (by simp)
                · rw [if_neg c12] at H
                  exact absurd H (by simp)
              · rw [if_neg c11] at H
                exact absurd H (by simp)
            · rw [if_neg c10] at H
              have c10b0 : decide (x25_2 < (l0_0.length : Int)) = false := decide_eq_false c10
              clear c10
              obtain rfl := Option.some.inj H
              go_wp2
              repeat (go_quiet (fail); try go_wp2)
              go_ret
              exact ⟨by first | rfl | (simp [errW_none, errW_some] <;> rfl) | (simp [*, errW_none, errW_some] <;> rfl), by repeat (first | (with_reducible first | exact HB.out | apply below_alloc | apply pw_below_drewN | apply below_drew1 | refine below_set ?_ GE312.out) | exact HB.out)⟩

end Go.Proofs.Ytodldpdnhcafpaa.F

namespace Go.Proofs.Ytodldpdnhcafpaa.Q
open Go.RowKit Go.Proofs.YtodldpdnhcafpaaW.PrintWords Go.Proofs.YtodldpdnhcafpaaW.PrintLast Go.Proofs.YtodldpdnhcafpaaW.PrintMore
open Go.Proofs.Ytodldpdnhcafpaa.F Go.Proofs.Ytodldpdnhcafpaa.K
set_option linter.unusedSimpArgs false
set_option linter.unusedVariables false

/-- Are the kids from x on in order up to en? -/
def ck (l : List S47) (en : Int) : Nat → Int → Bool
  | 0, _ => true
  | d + 1, x => if x < en then (if (rd_T47 l x).f3 < 1 then false else if (rd_T47 l x).f3 > en - x then false else ck l en d (x + (rd_T47 l x).f3)) else true
theorem kgo_ck (l : List S47) (en : Int) : ∀ (d : Nat) (pre : List Int) (x : Int), (kgo l en d pre x).2 = ck l en d x
  | 0, _, _ => rfl
  | d + 1, pre, x => by
    simp only [kgo, ck]
    split
    · split
      · rfl
      · split
        · rfl
        · exact kgo_ck l en d _ _
    · rfl
theorem ck_fuel (l : List S47) (en : Int) : ∀ (d d' : Nat) (x : Int), en - x ≤ d → en - x ≤ d' → ck l en d x = ck l en d' x
  | 0, 0, _, _, _ => rfl
  | 0, d' + 1, x, h, _ => by simp only [ck]; rw [if_neg (by omega)]
  | d + 1, 0, x, _, h => by simp only [ck]; rw [if_neg (by omega)]
  | d + 1, d' + 1, x, h, h' => by
    simp only [ck]
    split
    · split
      · rfl
      · split
        · rfl
        · exact ck_fuel l en d d' _ (by omega) (by omega)
    · rfl
def C (l : List S47) (x en : Int) : Bool := ck l en l.length x
theorem C_self (l : List S47) (x : Int) : C l x x = true := by
  unfold C
  cases l.length with
  | zero => rfl
  | succ d => simp only [ck]; rw [if_neg (by omega)]
theorem C_step (l : List S47) (x en : Int) (h0 : 0 ≤ x) (h : x < en) (he : en ≤ l.length) : C l x en = (decide (1 ≤ (rd_T47 l x).f3) && (decide ((rd_T47 l x).f3 ≤ en - x) && C l (x + (rd_T47 l x).f3) en)) := by
  unfold C
  rw [ck_fuel l en l.length (l.length + 1) x (by omega) (by omega)]
  simp only [ck]
  rw [if_pos h]
  by_cases c1 : (rd_T47 l x).f3 < 1
  · rw [if_pos c1, decide_eq_false (by omega)]; rfl
  · rw [if_neg c1, decide_eq_true (show 1 ≤ (rd_T47 l x).f3 by omega)]
    by_cases c2 : (rd_T47 l x).f3 > en - x
    · rw [if_pos c2, decide_eq_false (by omega)]; rfl
    · rw [if_neg c2, decide_eq_true (show (rd_T47 l x).f3 ≤ en - x by omega)]; rfl
theorem kspec_C (l : List S47) (n : Int) : (kspec l n).2 = (sizedB l n && C l (n + 1) (n + (rd_T47 l n).f3)) := by
  unfold kspec C
  split
  · rename_i h; rw [kgo_ck, h]; rfl
  · rename_i h; rw [show sizedB l n = false by simpa using h]; rfl
def good (l : List S47) (n : Int) : Bool := (kspec l n).2 && decide ((rd_T47 l n).f0 < 58)
def allG (l : List S47) : Nat → Int → Bool
  | 0, _ => true
  | f + 1, n => good l n && allG l f (n + 1)
def rem (l : List S47) : Int → List Int → Bool
  | _, [] => true
  | n, e :: s => C l n e && rem l e s
/-- The nodes from n on, the ends of those around from the innermost on. -/
def pops (n : Int) : List Int → List Int
  | [] => []
  | e :: s => if e = n then pops n s else e :: s
def endOf (l : List S47) : List Int → Int
  | [] => l.length
  | e :: _ => e
def run (l : List S47) : Nat → Int → List Int → Bool
  | 0, _, _ => true
  | f + 1, n, s => if (rd_T47 l n).f0 ≥ 58 then false else if (rd_T47 l n).f3 < 1 then false else if (rd_T47 l n).f3 > endOf l (pops n s) - n then false else run l f (n + 1) ((n + (rd_T47 l n).f3) :: pops n s)

/-- What the ends of the nodes around are like. -/
def Ends (l : List S47) (n : Int) (s : List Int) : Prop := ∀ e ∈ s, n ≤ e ∧ e ≤ (l.length : Int)
theorem pops_mem {n e : Int} : ∀ {s : List Int}, e ∈ pops n s → e ∈ s
  | [], h => by simp [pops] at h
  | a :: s, h => by
    simp only [pops] at h
    split at h
    · exact List.mem_cons_of_mem _ (pops_mem h)
    · exact h
theorem rem_pops (l : List S47) (n : Int) : ∀ s : List Int, rem l n s = rem l n (pops n s)
  | [] => rfl
  | e :: s => by
    simp only [pops]
    split
    · rename_i h
      subst h
      simp only [rem]
      rw [C_self, Bool.true_and]
      exact rem_pops l e s
    · rfl
theorem pops_head {n e : Int} {s t : List Int} (h : pops n s = e :: t) : e ≠ n := by
  induction s with
  | nil => simp [pops] at h
  | cons a s ih =>
    simp only [pops] at h
    split at h
    · exact ih h
    · rename_i hne
      obtain ⟨rfl, _⟩ := List.cons.inj h
      exact hne
theorem rem_full (l : List S47) : ∀ s : List Int, Ends l l.length s → rem l l.length s = true
  | [], _ => rfl
  | e :: s, h => by
    have h1 := h e List.mem_cons_self
    have : e = (l.length : Int) := by omega
    subst this
    simp only [rem]
    rw [C_self, Bool.true_and]
    exact rem_full l s (fun x hx => h x (List.mem_cons_of_mem _ hx))
theorem pops_last (n : Int) (z : Int) (hz : z ≠ n) : ∀ s : List Int, s.getLast? = some z → (pops n s).getLast? = some z
  | [], h => by simp at h
  | e :: s, h => by
    simp only [pops]
    split
    · rename_i he
      cases s with
      | nil => simp at h; omega
      | cons a s =>
        rw [List.getLast?_cons_cons] at h
        exact pops_last n z hz (a :: s) h
    · exact h
theorem pops_suffix (n : Int) : ∀ s : List Int, pops n s <:+ s
  | [] => List.suffix_refl _
  | e :: s => by
    simp only [pops]
    split
    · exact (pops_suffix n s).trans (List.suffix_cons _ _)
    · exact List.suffix_refl _
theorem run_rem (l : List S47) : ∀ (f : Nat) (n : Int) (s : List Int), (l.length : Int) - n = f → 0 ≤ n → Ends l n s → s.Pairwise (· ≤ ·) → s.getLast? = some (l.length : Int) → run l f n s = (rem l n s && allG l f n)
  | 0, n, s, hf, h0, hs, ho, hz => by
    have : n = (l.length : Int) := by omega
    subst this
    rw [rem_full l s hs]
    rfl
  | f + 1, n, s, hf, h0, hs, ho, hz => by
    have hlt : n < (l.length : Int) := by omega
    have hz2 := pops_last n (l.length : Int) (by omega) s hz
    rw [rem_pops]
    simp only [run, allG]
    cases hp : pops n s with
    | nil => rw [hp] at hz2; simp at hz2
    | cons e t =>
      have hne := pops_head hp
      have he : e ∈ s := pops_mem (by rw [hp]; exact List.mem_cons_self)
      have hes := hs e he
      have hen : n < e := by omega
      have hop : (e :: t).Pairwise (· ≤ ·) := by rw [← hp]; exact ho.sublist (pops_suffix n s).sublist
      have hE : endOf l (e :: t) = e := rfl
      simp only [rem]
      rw [hE, C_step l n e h0 hen hes.2]
      unfold good
      rw [kspec_C]
      unfold sizedB
      rw [decide_eq_true h0, decide_eq_true hlt]
      by_cases c0 : (rd_T47 l n).f0 ≥ 58
      · rw [if_pos c0, decide_eq_false (show ¬ (rd_T47 l n).f0 < 58 by omega)]; simp
      · rw [if_neg c0, decide_eq_true (show (rd_T47 l n).f0 < 58 by omega)]
        by_cases c1 : (rd_T47 l n).f3 < 1
        · rw [if_pos c1, decide_eq_false (show ¬ 1 ≤ (rd_T47 l n).f3 by omega)]; simp
        · rw [if_neg c1, decide_eq_true (show 1 ≤ (rd_T47 l n).f3 by omega)]
          by_cases c2 : (rd_T47 l n).f3 > e - n
          · rw [if_pos c2, decide_eq_false (show ¬ (rd_T47 l n).f3 ≤ e - n by omega)]; simp
          · rw [if_neg c2, decide_eq_true (show (rd_T47 l n).f3 ≤ e - n by omega), decide_eq_true (show (rd_T47 l n).f3 ≤ (l.length : Int) - n by omega)]
            rw [run_rem l f (n + 1) ((n + (rd_T47 l n).f3) :: e :: t) (by omega) (by omega) ?_ ?_ ?_]
            · simp only [rem, Bool.true_and, Bool.and_true]
              generalize C l (n + 1) (n + (rd_T47 l n).f3) = x1
              generalize C l (n + (rd_T47 l n).f3) e = x2
              generalize rem l e t = x3
              generalize allG l f (n + 1) = x4
              cases x1 <;> cases x2 <;> cases x3 <;> cases x4 <;> rfl
            · intro x hx
              rcases List.mem_cons.1 hx with rfl | hx
              · omega
              · have hx2 : x ∈ pops n s := by rw [hp]; exact hx
                have h3 := hs x (pops_mem hx2)
                rcases List.mem_cons.1 hx with rfl | hx
                · omega
                · have := (List.pairwise_cons.1 hop).1 x hx
                  omega
            · refine List.pairwise_cons.2 ⟨fun x hx => ?_, hop⟩
              rcases List.mem_cons.1 hx with rfl | hx
              · omega
              · have := (List.pairwise_cons.1 hop).1 x hx
                omega
            · rw [List.getLast?_cons_cons, ← hp]; exact hz2

def shapedB (l : List S47) : Bool := decide (0 < l.length) && (decide ((rd_T47 l 0).f3 = (l.length : Int)) && allG l l.length 0)
theorem run_all (l : List S47) (h : 0 < l.length) (hz : (rd_T47 l 0).f3 = (l.length : Int)) : run l l.length 0 [] = allG l l.length 0 := by
  obtain ⟨f, hf⟩ : ∃ f, l.length = f + 1 := ⟨l.length - 1, by omega⟩
  have h1 : run l f 1 [(l.length : Int)] = (rem l 1 [(l.length : Int)] && allG l f 1) := by
    refine run_rem l f 1 _ (by omega) (by omega) ?_ (by simp) (by simp)
    intro e he
    simp at he
    omega
  rw [hf]
  simp only [run, allG]
  have hP : pops 0 [] = [] := rfl
  have hE : endOf l [] = (l.length : Int) := rfl
  rw [hP, hE, hz, Int.zero_add, Int.zero_add, h1]
  unfold good
  rw [kspec_C]
  unfold sizedB
  rw [hz, Int.zero_add, Int.zero_add, decide_eq_true (show (0 : Int) ≤ 0 by omega), decide_eq_true (show (0 : Int) < (l.length : Int) by omega), decide_eq_true (show (1 : Int) ≤ (l.length : Int) by omega), decide_eq_true (show (l.length : Int) ≤ (l.length : Int) - 0 by omega)]
  rw [if_neg (show ¬ (l.length : Int) < 1 by omega), if_neg (show ¬ (l.length : Int) > (l.length : Int) - 0 by omega)]
  simp only [rem]
  by_cases c : (rd_T47 l 0).f0 ≥ 58
  · rw [if_pos c, decide_eq_false (show ¬ (rd_T47 l 0).f0 < 58 by omega)]; simp
  · rw [if_neg c, decide_eq_true (show (rd_T47 l 0).f0 < 58 by omega)]; simp

theorem last_rev (e : Int) (s : List Int) : rd ((e :: s).reverse) (wrap64 (((e :: s).reverse.length : Int) - 1)) = e ∨ ¬ (e :: s).length ≤ 9223372036854775807 := by
  by_cases h : (e :: s).length ≤ 9223372036854775807
  · left
    rw [List.length_reverse, kw64 (by omega) (by simp only [List.length_cons] at h ⊢; omega)]
    unfold rd
    rw [show (((e :: s).length : Int) - 1).toNat = s.length by simp only [List.length_cons]; omega, List.reverse_cons]
    simp [List.getD_eq_getElem?_getD]
  · exact .inr h
/-- tree.shaped's two inner parts. -/
theorem shaped_loop (l : List S47) (hl : l.length ≤ 4398046511104) : ∀ (f : Nat) (n : Int) (s : List Int), (l.length : Int) - n = f → 0 ≤ n → (∀ e ∈ s, 0 ≤ e ∧ e ≤ (l.length : Int)) → (s.length : Int) ≤ n →
    Ev (fun k => tree_shaped.l0 k s.reverse l (l.length : Int) n l) (run l f n s)
  | 0, n, s, hf, h0, hs, hb => by
    refine ⟨1, fun m hm => ?_⟩
    obtain ⟨k, rfl⟩ : ∃ j, m = j + 1 := ⟨m - 1, by omega⟩
    simp only [tree_shaped.l0, run]
    rw [if_neg (by omega)]
  | f + 1, n, s, hf, h0, hs, hb => by
    have hlt : n < (l.length : Int) := by omega
    have hw1 : wrap64 (n + 1) = n + 1 := kw64 (by omega) (by omega)
    refine Ev.step (f := fun k => tree_shaped.l1 k s.reverse n l (l.length : Int) n l (rd_T47 l n).f0 (rd_T47 l n).f1 (rd_T47 l n).f2 (rd_T47 l n).f3) (fun k => by
      simp only [tree_shaped.l0]
      rw [if_pos hlt, if_pos h0, if_pos hlt]) ?_
    have tail : ∀ s : List Int, (∀ e ∈ s, 0 ≤ e ∧ e ≤ (l.length : Int)) → (s.length : Int) ≤ n →
        Ev (fun k => tree_shaped.j3 k s.reverse n l (l.length : Int) n l (rd_T47 l n).f0 (rd_T47 l n).f1 (rd_T47 l n).f2 (rd_T47 l n).f3)
          (if (rd_T47 l n).f0 ≥ 58 then false else if (rd_T47 l n).f3 < 1 then false else if (rd_T47 l n).f3 > endOf l s - n then false else run l f (n + 1) ((n + (rd_T47 l n).f3) :: s)) := by
      intro s hs hb
      have hend : 0 ≤ endOf l s ∧ endOf l s ≤ (l.length : Int) := by
        cases s with
        | nil => simp only [endOf]; omega
        | cons e s => exact hs e List.mem_cons_self
      have hwe : wrap64 (endOf l s - n) = endOf l s - n := kw64 (by omega) (by omega)
      have hlim : s.reverse.length < 17592186044416 := by rw [List.length_reverse]; omega
      have key : ∀ k, tree_shaped.j3 (k + 1) s.reverse n l (l.length : Int) n l (rd_T47 l n).f0 (rd_T47 l n).f1 (rd_T47 l n).f2 (rd_T47 l n).f3 =
          if (rd_T47 l n).f0 ≥ 58 then some false else if (rd_T47 l n).f3 < 1 then some false else if (rd_T47 l n).f3 > endOf l s - n then some false else tree_shaped.l0 k (s.reverse ++ [wrap64 (n + (rd_T47 l n).f3)]) l (l.length : Int) (n + 1) l := by
        intro k
        simp only [tree_shaped.j3, hw1]
        cases s with
        | nil =>
          have hE : endOf l [] = (l.length : Int) := rfl
          rw [hE] at hwe ⊢
          rw [if_neg (by simp), hwe, if_pos hlim]
        | cons e s =>
          have hE : endOf l (e :: s) = e := rfl
          rw [hE] at hwe ⊢
          have hr := (last_rev e s).resolve_right (fun h => h (by omega))
          have hlen : ((e :: s).reverse.length : Int) = (s.length : Int) + 1 := by rw [List.length_reverse, List.length_cons]; omega
          simp only [List.length_cons] at hb
          rw [hr, hwe, if_pos hlim, hlen, kw64 (by omega) (by omega), if_pos (by omega), if_pos (by omega), if_pos (by omega)]
      by_cases c0 : (rd_T47 l n).f0 ≥ 58
      · rw [if_pos c0]; exact ⟨1, fun m hm => by obtain ⟨k, rfl⟩ : ∃ j, m = j + 1 := ⟨m - 1, by omega⟩; simp only; rw [key, if_pos c0]⟩
      · rw [if_neg c0]
        by_cases c1 : (rd_T47 l n).f3 < 1
        · rw [if_pos c1]; exact ⟨1, fun m hm => by obtain ⟨k, rfl⟩ : ∃ j, m = j + 1 := ⟨m - 1, by omega⟩; simp only; rw [key, if_neg c0, if_pos c1]⟩
        · rw [if_neg c1]
          by_cases c2 : (rd_T47 l n).f3 > endOf l s - n
          · rw [if_pos c2]; exact ⟨1, fun m hm => by obtain ⟨k, rfl⟩ : ∃ j, m = j + 1 := ⟨m - 1, by omega⟩; simp only; rw [key, if_neg c0, if_neg c1, if_pos c2]⟩
          · rw [if_neg c2]
            have ih := shaped_loop l hl f (n + 1) ((n + (rd_T47 l n).f3) :: s) (by omega) (by omega) (fun e he => by
              rcases List.mem_cons.1 he with rfl | he
              · omega
              · exact hs e he) (by rw [List.length_cons]; omega)
            refine Ev.step (fun k => ?_) ih
            rw [key, if_neg c0, if_neg c1, if_neg c2, List.reverse_cons, kw64 (by omega) (by omega)]
    have pop : ∀ s : List Int, (∀ e ∈ s, 0 ≤ e ∧ e ≤ (l.length : Int)) → (s.length : Int) ≤ n →
        Ev (fun k => tree_shaped.l1 k s.reverse n l (l.length : Int) n l (rd_T47 l n).f0 (rd_T47 l n).f1 (rd_T47 l n).f2 (rd_T47 l n).f3)
          (if (rd_T47 l n).f0 ≥ 58 then false else if (rd_T47 l n).f3 < 1 then false else if (rd_T47 l n).f3 > endOf l (pops n s) - n then false else run l f (n + 1) ((n + (rd_T47 l n).f3) :: pops n s)) := by
      intro s
      induction s with
      | nil =>
        intro hs hb
        have := tail [] hs hb
        have hP : pops n [] = [] := rfl
        rw [hP]
        refine Ev.step (fun k => ?_) this
        simp only [tree_shaped.l1]
        rw [if_neg (by simp)]
      | cons e s ih =>
        intro hs hb
        have hr := (last_rev e s).resolve_right (fun h => h (by omega))
        have hlen : ((e :: s).reverse.length : Int) = (s.length : Int) + 1 := by rw [List.length_reverse, List.length_cons]; omega
        simp only [List.length_cons] at hb
        have hw : wrap64 ((s.length : Int) + 1 - 1) = (s.length : Int) := by rw [kw64] <;> omega
        by_cases c : e = n
        · have hP : pops n (e :: s) = pops n s := by simp only [pops]; rw [if_pos c]
          rw [hP]
          have i1 := ih (fun x hx => hs x (List.mem_cons_of_mem _ hx)) (by omega)
          refine Ev.step (fun k => ?_) i1
          simp only [tree_shaped.l1]
          rw [hr, if_pos (by omega), hlen, hw, if_pos (by omega), if_pos (by omega), if_pos c, if_pos (by omega), Int.toNat_natCast, List.reverse_cons, List.take_append_of_le_length (by simp), List.take_of_length_le (by simp)]
        · have hP : pops n (e :: s) = e :: s := by simp only [pops]; rw [if_neg c]
          rw [hP]
          have := tail (e :: s) hs (by rw [List.length_cons]; omega)
          refine Ev.step (fun k => ?_) this
          simp only [tree_shaped.l1]
          rw [hr, if_pos (by omega), hlen, hw, if_pos (by omega), if_pos (by omega), if_neg c]
    simp only [run]
    exact pop s hs hb
theorem shaped_is (l : List S47) (hl : l.length ≤ 4398046511104) : Ev (fun k => tree_shaped.f k l) (shapedB l) := by
  unfold tree_shaped.f shapedB
  have hbad : Ev (fun k => tree_shaped.j0 k true l) false := ⟨1, fun m hm => by
    obtain ⟨k, rfl⟩ : ∃ j, m = j + 1 := ⟨m - 1, by omega⟩
    simp only [tree_shaped.j0]; rfl⟩
  by_cases h : (l.length : Int) = 0
  · simp only [if_pos h, decide_eq_false (show ¬ 0 < l.length by omega), Bool.false_and]; exact hbad
  · simp only [if_neg h, if_pos (show 0 < (l.length : Int) by omega), decide_eq_true (show 0 < l.length by omega), Bool.true_and]
    by_cases hz : (rd_T47 l 0).f3 = (l.length : Int)
    · rw [decide_eq_true hz, Bool.true_and, ← run_all l (by omega) hz]
      have hne : ((rd_T47 l 0).f3 != (l.length : Int)) = false := bne_eq_false_iff_eq.mpr hz
      simp only [hne]
      have := shaped_loop l hl l.length 0 [] (by omega) (by omega) (by simp) (by simp)
      refine Ev.step (fun k => ?_) this
      simp only [tree_shaped.j0]
      rw [if_neg (by simp)]
      rfl
    · rw [decide_eq_false hz, Bool.false_and]
      have hne : ((rd_T47 l 0).f3 != (l.length : Int)) = true := bne_iff_ne.mpr hz
      simp only [hne]
      exact hbad
theorem rshaped_loop (l : List S47) (hl : l.length ≤ 4398046511104) (hk : ∀ x ∈ l, 0 ≤ x.f0 ∧ x.f0 ≤ 255) : ∀ (f : Nat) (n : Int), (l.length : Int) - n = f → 0 ≤ n → Ev (fun k => monikerref4_Shaped.l0 k n l) (allG l f n)
  | 0, n, hf, h0 => by
    refine ⟨1, fun m hm => ?_⟩
    obtain ⟨k, rfl⟩ : ∃ j, m = j + 1 := ⟨m - 1, by omega⟩
    simp only [monikerref4_Shaped.l0, allG]
    rw [if_neg (by omega)]
  | f + 1, n, hf, h0 => by
    have hlt : n < (l.length : Int) := by omega
    have ih := rshaped_loop l hl hk f (n + 1) (by omega) (by omega)
    have hw1 : wrap64 (n + 1) = n + 1 := kw64 (by omega) (by omega)
    obtain ⟨_, _, k3⟩ := Kids_all l hl n
    have hkn : 0 ≤ (rd_T47 l n).f0 ∧ (rd_T47 l n).f0 ≤ 255 := by
      have : rd_T47 l n = l[n.toNat]'(by omega) := by simp [rd_T47, List.getD_eq_getElem?_getD, show n.toNat < l.length by omega]
      rw [this]
      exact hk _ (List.getElem_mem _)
    have hw0 : wrap64 (rd_T47 l n).f0 = (rd_T47 l n).f0 := kw64 (by omega) (by omega)
    simp only [allG]
    unfold good
    refine Ev.step (f := fun k => (monikerref4_Kids.f k l n).bind fun bt292 => (if bt292.2 = true then (if 0 ≤ n then (if (rd_T47 l n).f0 ≥ 58 then (some false) else (monikerref4_Shaped.l0 k (n + 1) l)) else (none)) else (some false))) (fun k => by
      simp only [monikerref4_Shaped.l0, hw0, hw1]
      rw [if_pos hlt]) ?_
    refine k3.bind ?_
    by_cases c : (kspec l n).2 = true
    · simp only [if_pos c, if_pos h0]
      rw [c, Bool.true_and]
      by_cases c0 : (rd_T47 l n).f0 ≥ 58
      · simp only [if_pos c0]
        rw [decide_eq_false (show ¬ (rd_T47 l n).f0 < 58 by omega), Bool.false_and]
        exact Ev.now _
      · simp only [if_neg c0]
        rw [decide_eq_true (show (rd_T47 l n).f0 < 58 by omega), Bool.true_and]
        exact ih
    · simp only [if_neg c]
      rw [show (kspec l n).2 = false by simpa using c, Bool.false_and, Bool.false_and]
      exact Ev.now _
theorem RShaped_is (l : List S47) (hl : l.length ≤ 4398046511104) (hk : ∀ x ∈ l, 0 ≤ x.f0 ∧ x.f0 ≤ 255) : Ev (fun k => monikerref4_Shaped.f k l) (shapedB l) := by
  unfold monikerref4_Shaped.f shapedB
  have hbad : Ev (fun k => monikerref4_Shaped.j0 k true l) false := ⟨1, fun m hm => by
    obtain ⟨k, rfl⟩ : ∃ j, m = j + 1 := ⟨m - 1, by omega⟩
    simp only [monikerref4_Shaped.j0]; rfl⟩
  by_cases h : (l.length : Int) = 0
  · simp only [if_pos h, decide_eq_false (show ¬ 0 < l.length by omega), Bool.false_and]; exact hbad
  · simp only [if_neg h, if_pos (show 0 < (l.length : Int) by omega), decide_eq_true (show 0 < l.length by omega), Bool.true_and]
    by_cases hz : (rd_T47 l 0).f3 = (l.length : Int)
    · rw [decide_eq_true hz, Bool.true_and]
      have hne : ((rd_T47 l 0).f3 != (l.length : Int)) = false := bne_eq_false_iff_eq.mpr hz
      simp only [hne]
      refine Ev.step (fun k => ?_) (rshaped_loop l hl hk l.length 0 (by omega) (by omega))
      simp only [monikerref4_Shaped.j0]
      rw [if_neg (by simp)]
    · rw [decide_eq_false hz, Bool.false_and]
      have hne : ((rd_T47 l 0).f3 != (l.length : Int)) = true := bne_iff_ne.mpr hz
      simp only [hne]
      exact hbad
end Go.Proofs.Ytodldpdnhcafpaa.Q

namespace Go.Proofs.Ytodldpdnhcafpaa.K
open Go.RowKit Go.Proofs.YtodldpdnhcafpaaW.PrintWords Go.Proofs.YtodldpdnhcafpaaW.PrintLast Go.Proofs.YtodldpdnhcafpaaW.PrintMore
open Go.Proofs.Ytodldpdnhcafpaa.F
attribute [local go_sem] max2_int min2_int max_two min_two
set_option linter.unusedVariables false
set_option linter.unusedSimpArgs false

/-- One kid y of a node nd: is all good so far, and where the next one may begin. -/
def vstep (nd y : S47) (good : Bool) (a : Int) : Bool × Int :=
  if y.f1 = y.f2 then (good && decide (nd.f1 ≤ y.f1), a) else (good && decide (a ≤ y.f1) && decide (y.f2 ≤ nd.f2), mx a y.f2)
set_option maxHeartbeats 8000000 in
set_option maxRecDepth 100000 in
theorem valid1.calls (x : Int) (l : List S47) (A : Option Addr) (c : Nat) (nd : S47) (good : Bool) (a : Int) (gt gg gx ga : Nat) (w0 w : World)
    (ht : w.heap[gt]? = some (.cells #[.slice A l.length c] 25 (0, 0))) (hg : w.heap[gg]? = some (.cells #[.bool good] 4 (0, 0))) (hx : w.heap[gx]? = some (.cells #[.int .u8 nd.f0, .int .i64 nd.f1, .int .i64 nd.f2, .int .i64 nd.f3] 47 (0, 0))) (ha : w.heap[ga]? = some (.cells #[.int .i64 a] 3 (0, 0)))
    (hr : Kd.C k47 w A l.length l) (h0 : 0 ≤ x) (h1 : x < (l.length : Int)) (hW : Below w0.heap.size w0 w) (hgg : w0.heap.size ≤ gg) (hga : w0.heap.size ≤ ga) :
    Calls Try.prog 61 #[.int .i64 x, .pointer (some ⟨gt, 0, none⟩), .pointer (some ⟨gg, 0, none⟩), .pointer (some ⟨gx, 0, none⟩), .pointer (some ⟨ga, 0, none⟩)] w fun e w' => (∃ v, e = .returned v) ∧
      w'.heap[gg]? = some (.cells #[.bool (vstep nd (rd_T47 l x) good a).1] 4 (0, 0)) ∧ w'.heap[ga]? = some (.cells #[.int .i64 (vstep nd (rd_T47 l x) good a).2] 3 (0, 0)) ∧ (∀ k, k < w.heap.size → k ≠ gg → k ≠ ga → w'.heap[k]? = w.heap[k]?) ∧ Below w0.heap.size w0 w' := by
  obtain ⟨ad, e2, hx0, hx1, hx2, hx3⟩ := at_T47 hr x h0 h1
  subst e2
  obtain ⟨y, hy⟩ : ∃ y, rd_T47 l x = y := ⟨_, rfl⟩
  rw [hy] at hx0 hx1 hx2 hx3 ⊢
  clear hy hr
  have ct : w.cell? ⟨gt, 0, none⟩ = some (.slice (some ad) l.length c) := (blk_cell ht 0).trans rfl
  have h0b : decide (0 ≤ x) = true := decide_eq_true h0
  have h1b : decide (x < (l.length : Int)) = true := decide_eq_true h1
  replace h0 := eq_true h0
  replace h1 := eq_true h1
  have ngg := blk_ne hg ha (by decide)
  have HT := Aside0.mk ht
  have HG := Aside0.mk hg
  have HX := Aside0.mk hx
  have HA := Aside0.mk ha
  have HW := Aside0.mk hW
  have GG := Aside0.mk hgg
  have GA := Aside0.mk hga
  have NGA := Aside0.mk ngg
  clear ht hg hx ha hW hgg hga ngg
  have LB0 : Below w.heap.size w (w.alloc (.cells #[.int .u8 y.f0, .int .i64 y.f1, .int .i64 y.f2, .int .i64 y.f3] 47)) := below_alloc (Below.refl _ _) _
  have LG := Aside0.mk (blk_below HG.out LB0)
  have LX := Aside0.mk (blk_below HX.out LB0)
  have LA := Aside0.mk (blk_below HA.out LB0)
  have L6 := Aside0.mk (heap_alloc_new w (.cells #[.int .u8 y.f0, .int .i64 y.f1, .int .i64 y.f2, .int .i64 y.f3] 47))
  have LW := Aside0.mk (show Below w0.heap.size w0 (w.alloc (.cells #[.int .u8 y.f0, .int .i64 y.f1, .int .i64 y.f2, .int .i64 y.f3] 47)) from below_step HW.out LB0)
  have LB := Aside0.mk (show ∀ k, k < w.heap.size → (w.alloc (.cells #[.int .u8 y.f0, .int .i64 y.f1, .int .i64 y.f2, .int .i64 y.f3] 47)).heap[k]? = w.heap[k]? from fun k hk => LB0.block k hk)
  have E2 := Aside0.mk (show gg ≠ w.heap.size from Nat.ne_of_lt (blk_lt HG.out))
  clear LB0
  have cg : (w.alloc (.cells #[.int .u8 y.f0, .int .i64 y.f1, .int .i64 y.f2, .int .i64 y.f3] 47)).cell? ⟨gg, 0, none⟩ = some (.bool good) := (blk_cell LG.out 0).trans rfl
  have fg := blk_frozen LG.out 0
  have cx1 : (w.alloc (.cells #[.int .u8 y.f0, .int .i64 y.f1, .int .i64 y.f2, .int .i64 y.f3] 47)).cell? ⟨gx, 1, none⟩ = some (.int .i64 nd.f1) := (blk_cell LX.out 1).trans rfl
  have cx2 : (w.alloc (.cells #[.int .u8 y.f0, .int .i64 y.f1, .int .i64 y.f2, .int .i64 y.f3] 47)).cell? ⟨gx, 2, none⟩ = some (.int .i64 nd.f2) := (blk_cell LX.out 2).trans rfl
  have ca : (w.alloc (.cells #[.int .u8 y.f0, .int .i64 y.f1, .int .i64 y.f2, .int .i64 y.f3] 47)).cell? ⟨ga, 0, none⟩ = some (.int .i64 a) := (blk_cell LA.out 0).trans rfl
  have fa := blk_frozen LA.out 0
  by_cases k1 : y.f1 = y.f2
  · have k1b : (y.f1 == y.f2) = true := beq_iff_eq.mpr k1
    have hv : vstep nd y good a = (good && decide (nd.f1 ≤ y.f1), a) := by unfold vstep; rw [if_pos k1]
    rw [hv]
    clear hv k1
    cases good with
    | false =>
      rw [Bool.false_and]
      go_enter Try.func61, Try.ntmps61
      go_wp2
      first | go_end0 | ((try simp only [Exit.inBlock, Exit.then]); refine bodyPost_ret (results_none rfl _ _ _) rfl ?_)
      exact ⟨⟨_, rfl⟩, blk_put LG.out 0 _ rfl, blk_far (p := ⟨gg, 0, none⟩) LA.out NGA.out.symm _, fun k hk h1 h2 => (Below.heap_setCell _ _ _ _ h1).trans (LB.out k hk), below_set LW.out GG.out⟩
    | true =>
      rw [Bool.true_and]
      by_cases k2 : nd.f1 ≤ y.f1
      · have k2b : decide (nd.f1 ≤ y.f1) = true := decide_eq_true k2
        rw [k2b]
        clear k2
        go_enter Try.func61, Try.ntmps61
        go_wp2
        first | go_end0 | ((try simp only [Exit.inBlock, Exit.then]); refine bodyPost_ret (results_none rfl _ _ _) rfl ?_)
        exact ⟨⟨_, rfl⟩, blk_put LG.out 0 _ rfl, blk_far (p := ⟨gg, 0, none⟩) LA.out NGA.out.symm _, fun k hk h1 h2 => (Below.heap_setCell _ _ _ _ h1).trans (LB.out k hk), below_set LW.out GG.out⟩
      · have k2b : decide (nd.f1 ≤ y.f1) = false := decide_eq_false k2
        rw [k2b]
        clear k2
        go_enter Try.func61, Try.ntmps61
        go_wp2
        first | go_end0 | ((try simp only [Exit.inBlock, Exit.then]); refine bodyPost_ret (results_none rfl _ _ _) rfl ?_)
        exact ⟨⟨_, rfl⟩, blk_put LG.out 0 _ rfl, blk_far (p := ⟨gg, 0, none⟩) LA.out NGA.out.symm _, fun k hk h1 h2 => (Below.heap_setCell _ _ _ _ h1).trans (LB.out k hk), below_set LW.out GG.out⟩
  · have k1b : (y.f1 == y.f2) = false := beq_eq_false_iff_ne.mpr k1
    have hv : vstep nd y good a = (good && decide (a ≤ y.f1) && decide (y.f2 ≤ nd.f2), mx a y.f2) := by unfold vstep; rw [if_neg k1]
    rw [hv]
    clear hv k1
    by_cases k5 : a < y.f2
    · have k5b : decide (a < y.f2) = true := decide_eq_true k5
      have hm : mx a y.f2 = y.f2 := by unfold mx; rw [if_pos k5]
      rw [hm]
      clear hm
      replace k5 := eq_true k5
      cases good with
      | false =>
        rw [Bool.false_and, Bool.false_and]
        have MA := Aside0.mk (show ((w.alloc (.cells #[.int .u8 y.f0, .int .i64 y.f1, .int .i64 y.f2, .int .i64 y.f3] 47)).setCell ⟨gg, 0, none⟩ (.bool false)).heap[ga]? = _ from blk_far (p := ⟨gg, 0, none⟩) LA.out NGA.out.symm _)
        have M6 := Aside0.mk (show ((w.alloc (.cells #[.int .u8 y.f0, .int .i64 y.f1, .int .i64 y.f2, .int .i64 y.f3] 47)).setCell ⟨gg, 0, none⟩ (.bool false)).heap[w.heap.size]? = _ from blk_far (p := ⟨gg, 0, none⟩) L6.out E2.out.symm _)
        have MG := Aside0.mk (show ((w.alloc (.cells #[.int .u8 y.f0, .int .i64 y.f1, .int .i64 y.f2, .int .i64 y.f3] 47)).setCell ⟨gg, 0, none⟩ (.bool false)).heap[gg]? = some (.cells #[.bool false] 4 (0, 0)) from blk_put LG.out 0 _ rfl)
        have ca2 : ((w.alloc (.cells #[.int .u8 y.f0, .int .i64 y.f1, .int .i64 y.f2, .int .i64 y.f3] 47)).setCell ⟨gg, 0, none⟩ (.bool false)).cell? ⟨ga, 0, none⟩ = some (.int .i64 a) := (blk_cell MA.out 0).trans rfl
        have fa2 := blk_frozen MA.out 0
        have c62 : ((w.alloc (.cells #[.int .u8 y.f0, .int .i64 y.f1, .int .i64 y.f2, .int .i64 y.f3] 47)).setCell ⟨gg, 0, none⟩ (.bool false)).cell? ⟨w.heap.size, 2, none⟩ = some (.int .i64 y.f2) := (blk_cell M6.out 2).trans rfl
        go_enter Try.func61, Try.ntmps61
        go_wp2
        first | go_end0 | ((try simp only [Exit.inBlock, Exit.then]); refine bodyPost_ret (results_none rfl _ _ _) rfl ?_)
        exact ⟨⟨_, rfl⟩, blk_far (p := ⟨ga, 0, none⟩) MG.out NGA.out _, blk_put MA.out 0 _ rfl, fun k hk h1 h2 => (Below.heap_setCell _ _ _ _ h2).trans ((Below.heap_setCell _ _ _ _ h1).trans (LB.out k hk)), below_set (below_set LW.out GG.out) GA.out⟩
      | true =>
        rw [Bool.true_and]
        by_cases k2 : a ≤ y.f1
        · have k2b : decide (a ≤ y.f1) = true := decide_eq_true k2
          rw [k2b, Bool.true_and]
          clear k2
          by_cases k3 : y.f2 ≤ nd.f2
          · have k3b : decide (y.f2 ≤ nd.f2) = true := decide_eq_true k3
            rw [k3b]
            clear k3
            have MA := Aside0.mk (show ((w.alloc (.cells #[.int .u8 y.f0, .int .i64 y.f1, .int .i64 y.f2, .int .i64 y.f3] 47)).setCell ⟨gg, 0, none⟩ (.bool true)).heap[ga]? = _ from blk_far (p := ⟨gg, 0, none⟩) LA.out NGA.out.symm _)
            have M6 := Aside0.mk (show ((w.alloc (.cells #[.int .u8 y.f0, .int .i64 y.f1, .int .i64 y.f2, .int .i64 y.f3] 47)).setCell ⟨gg, 0, none⟩ (.bool true)).heap[w.heap.size]? = _ from blk_far (p := ⟨gg, 0, none⟩) L6.out E2.out.symm _)
            have MG := Aside0.mk (show ((w.alloc (.cells #[.int .u8 y.f0, .int .i64 y.f1, .int .i64 y.f2, .int .i64 y.f3] 47)).setCell ⟨gg, 0, none⟩ (.bool true)).heap[gg]? = some (.cells #[.bool true] 4 (0, 0)) from blk_put LG.out 0 _ rfl)
            have ca2 : ((w.alloc (.cells #[.int .u8 y.f0, .int .i64 y.f1, .int .i64 y.f2, .int .i64 y.f3] 47)).setCell ⟨gg, 0, none⟩ (.bool true)).cell? ⟨ga, 0, none⟩ = some (.int .i64 a) := (blk_cell MA.out 0).trans rfl
            have fa2 := blk_frozen MA.out 0
            have c62 : ((w.alloc (.cells #[.int .u8 y.f0, .int .i64 y.f1, .int .i64 y.f2, .int .i64 y.f3] 47)).setCell ⟨gg, 0, none⟩ (.bool true)).cell? ⟨w.heap.size, 2, none⟩ = some (.int .i64 y.f2) := (blk_cell M6.out 2).trans rfl
            go_enter Try.func61, Try.ntmps61
            go_wp2
            first | go_end0 | ((try simp only [Exit.inBlock, Exit.then]); refine bodyPost_ret (results_none rfl _ _ _) rfl ?_)
            exact ⟨⟨_, rfl⟩, blk_far (p := ⟨ga, 0, none⟩) MG.out NGA.out _, blk_put MA.out 0 _ rfl, fun k hk h1 h2 => (Below.heap_setCell _ _ _ _ h2).trans ((Below.heap_setCell _ _ _ _ h1).trans (LB.out k hk)), below_set (below_set LW.out GG.out) GA.out⟩
          · have k3b : decide (y.f2 ≤ nd.f2) = false := decide_eq_false k3
            rw [k3b]
            clear k3
            have MA := Aside0.mk (show ((w.alloc (.cells #[.int .u8 y.f0, .int .i64 y.f1, .int .i64 y.f2, .int .i64 y.f3] 47)).setCell ⟨gg, 0, none⟩ (.bool false)).heap[ga]? = _ from blk_far (p := ⟨gg, 0, none⟩) LA.out NGA.out.symm _)
            have M6 := Aside0.mk (show ((w.alloc (.cells #[.int .u8 y.f0, .int .i64 y.f1, .int .i64 y.f2, .int .i64 y.f3] 47)).setCell ⟨gg, 0, none⟩ (.bool false)).heap[w.heap.size]? = _ from blk_far (p := ⟨gg, 0, none⟩) L6.out E2.out.symm _)
            have MG := Aside0.mk (show ((w.alloc (.cells #[.int .u8 y.f0, .int .i64 y.f1, .int .i64 y.f2, .int .i64 y.f3] 47)).setCell ⟨gg, 0, none⟩ (.bool false)).heap[gg]? = some (.cells #[.bool false] 4 (0, 0)) from blk_put LG.out 0 _ rfl)
            have ca2 : ((w.alloc (.cells #[.int .u8 y.f0, .int .i64 y.f1, .int .i64 y.f2, .int .i64 y.f3] 47)).setCell ⟨gg, 0, none⟩ (.bool false)).cell? ⟨ga, 0, none⟩ = some (.int .i64 a) := (blk_cell MA.out 0).trans rfl
            have fa2 := blk_frozen MA.out 0
            have c62 : ((w.alloc (.cells #[.int .u8 y.f0, .int .i64 y.f1, .int .i64 y.f2, .int .i64 y.f3] 47)).setCell ⟨gg, 0, none⟩ (.bool false)).cell? ⟨w.heap.size, 2, none⟩ = some (.int .i64 y.f2) := (blk_cell M6.out 2).trans rfl
            go_enter Try.func61, Try.ntmps61
            go_wp2
            first | go_end0 | ((try simp only [Exit.inBlock, Exit.then]); refine bodyPost_ret (results_none rfl _ _ _) rfl ?_)
            exact ⟨⟨_, rfl⟩, blk_far (p := ⟨ga, 0, none⟩) MG.out NGA.out _, blk_put MA.out 0 _ rfl, fun k hk h1 h2 => (Below.heap_setCell _ _ _ _ h2).trans ((Below.heap_setCell _ _ _ _ h1).trans (LB.out k hk)), below_set (below_set LW.out GG.out) GA.out⟩
        · have k2b : decide (a ≤ y.f1) = false := decide_eq_false k2
          rw [k2b, Bool.false_and]
          clear k2
          have MA := Aside0.mk (show ((w.alloc (.cells #[.int .u8 y.f0, .int .i64 y.f1, .int .i64 y.f2, .int .i64 y.f3] 47)).setCell ⟨gg, 0, none⟩ (.bool false)).heap[ga]? = _ from blk_far (p := ⟨gg, 0, none⟩) LA.out NGA.out.symm _)
          have M6 := Aside0.mk (show ((w.alloc (.cells #[.int .u8 y.f0, .int .i64 y.f1, .int .i64 y.f2, .int .i64 y.f3] 47)).setCell ⟨gg, 0, none⟩ (.bool false)).heap[w.heap.size]? = _ from blk_far (p := ⟨gg, 0, none⟩) L6.out E2.out.symm _)
          have MG := Aside0.mk (show ((w.alloc (.cells #[.int .u8 y.f0, .int .i64 y.f1, .int .i64 y.f2, .int .i64 y.f3] 47)).setCell ⟨gg, 0, none⟩ (.bool false)).heap[gg]? = some (.cells #[.bool false] 4 (0, 0)) from blk_put LG.out 0 _ rfl)
          have ca2 : ((w.alloc (.cells #[.int .u8 y.f0, .int .i64 y.f1, .int .i64 y.f2, .int .i64 y.f3] 47)).setCell ⟨gg, 0, none⟩ (.bool false)).cell? ⟨ga, 0, none⟩ = some (.int .i64 a) := (blk_cell MA.out 0).trans rfl
          have fa2 := blk_frozen MA.out 0
          have c62 : ((w.alloc (.cells #[.int .u8 y.f0, .int .i64 y.f1, .int .i64 y.f2, .int .i64 y.f3] 47)).setCell ⟨gg, 0, none⟩ (.bool false)).cell? ⟨w.heap.size, 2, none⟩ = some (.int .i64 y.f2) := (blk_cell M6.out 2).trans rfl
          go_enter Try.func61, Try.ntmps61
          go_wp2
          first | go_end0 | ((try simp only [Exit.inBlock, Exit.then]); refine bodyPost_ret (results_none rfl _ _ _) rfl ?_)
          exact ⟨⟨_, rfl⟩, blk_far (p := ⟨ga, 0, none⟩) MG.out NGA.out _, blk_put MA.out 0 _ rfl, fun k hk h1 h2 => (Below.heap_setCell _ _ _ _ h2).trans ((Below.heap_setCell _ _ _ _ h1).trans (LB.out k hk)), below_set (below_set LW.out GG.out) GA.out⟩
    · have k5b : decide (a < y.f2) = false := decide_eq_false k5
      have hm : mx a y.f2 = a := by unfold mx; rw [if_neg k5]
      rw [hm]
      clear hm
      replace k5 := eq_false k5
      cases good with
      | false =>
        rw [Bool.false_and, Bool.false_and]
        have MA := Aside0.mk (show ((w.alloc (.cells #[.int .u8 y.f0, .int .i64 y.f1, .int .i64 y.f2, .int .i64 y.f3] 47)).setCell ⟨gg, 0, none⟩ (.bool false)).heap[ga]? = _ from blk_far (p := ⟨gg, 0, none⟩) LA.out NGA.out.symm _)
        have M6 := Aside0.mk (show ((w.alloc (.cells #[.int .u8 y.f0, .int .i64 y.f1, .int .i64 y.f2, .int .i64 y.f3] 47)).setCell ⟨gg, 0, none⟩ (.bool false)).heap[w.heap.size]? = _ from blk_far (p := ⟨gg, 0, none⟩) L6.out E2.out.symm _)
        have MG := Aside0.mk (show ((w.alloc (.cells #[.int .u8 y.f0, .int .i64 y.f1, .int .i64 y.f2, .int .i64 y.f3] 47)).setCell ⟨gg, 0, none⟩ (.bool false)).heap[gg]? = some (.cells #[.bool false] 4 (0, 0)) from blk_put LG.out 0 _ rfl)
        have ca2 : ((w.alloc (.cells #[.int .u8 y.f0, .int .i64 y.f1, .int .i64 y.f2, .int .i64 y.f3] 47)).setCell ⟨gg, 0, none⟩ (.bool false)).cell? ⟨ga, 0, none⟩ = some (.int .i64 a) := (blk_cell MA.out 0).trans rfl
        have fa2 := blk_frozen MA.out 0
        have c62 : ((w.alloc (.cells #[.int .u8 y.f0, .int .i64 y.f1, .int .i64 y.f2, .int .i64 y.f3] 47)).setCell ⟨gg, 0, none⟩ (.bool false)).cell? ⟨w.heap.size, 2, none⟩ = some (.int .i64 y.f2) := (blk_cell M6.out 2).trans rfl
        go_enter Try.func61, Try.ntmps61
        go_wp2
        first | go_end0 | ((try simp only [Exit.inBlock, Exit.then]); refine bodyPost_ret (results_none rfl _ _ _) rfl ?_)
        exact ⟨⟨_, rfl⟩, blk_far (p := ⟨ga, 0, none⟩) MG.out NGA.out _, blk_put MA.out 0 _ rfl, fun k hk h1 h2 => (Below.heap_setCell _ _ _ _ h2).trans ((Below.heap_setCell _ _ _ _ h1).trans (LB.out k hk)), below_set (below_set LW.out GG.out) GA.out⟩
      | true =>
        rw [Bool.true_and]
        by_cases k2 : a ≤ y.f1
        · have k2b : decide (a ≤ y.f1) = true := decide_eq_true k2
          rw [k2b, Bool.true_and]
          clear k2
          by_cases k3 : y.f2 ≤ nd.f2
          · have k3b : decide (y.f2 ≤ nd.f2) = true := decide_eq_true k3
            rw [k3b]
            clear k3
            have MA := Aside0.mk (show ((w.alloc (.cells #[.int .u8 y.f0, .int .i64 y.f1, .int .i64 y.f2, .int .i64 y.f3] 47)).setCell ⟨gg, 0, none⟩ (.bool true)).heap[ga]? = _ from blk_far (p := ⟨gg, 0, none⟩) LA.out NGA.out.symm _)
            have M6 := Aside0.mk (show ((w.alloc (.cells #[.int .u8 y.f0, .int .i64 y.f1, .int .i64 y.f2, .int .i64 y.f3] 47)).setCell ⟨gg, 0, none⟩ (.bool true)).heap[w.heap.size]? = _ from blk_far (p := ⟨gg, 0, none⟩) L6.out E2.out.symm _)
            have MG := Aside0.mk (show ((w.alloc (.cells #[.int .u8 y.f0, .int .i64 y.f1, .int .i64 y.f2, .int .i64 y.f3] 47)).setCell ⟨gg, 0, none⟩ (.bool true)).heap[gg]? = some (.cells #[.bool true] 4 (0, 0)) from blk_put LG.out 0 _ rfl)
            have ca2 : ((w.alloc (.cells #[.int .u8 y.f0, .int .i64 y.f1, .int .i64 y.f2, .int .i64 y.f3] 47)).setCell ⟨gg, 0, none⟩ (.bool true)).cell? ⟨ga, 0, none⟩ = some (.int .i64 a) := (blk_cell MA.out 0).trans rfl
            have fa2 := blk_frozen MA.out 0
            have c62 : ((w.alloc (.cells #[.int .u8 y.f0, .int .i64 y.f1, .int .i64 y.f2, .int .i64 y.f3] 47)).setCell ⟨gg, 0, none⟩ (.bool true)).cell? ⟨w.heap.size, 2, none⟩ = some (.int .i64 y.f2) := (blk_cell M6.out 2).trans rfl
            go_enter Try.func61, Try.ntmps61
            go_wp2
            first | go_end0 | ((try simp only [Exit.inBlock, Exit.then]); refine bodyPost_ret (results_none rfl _ _ _) rfl ?_)
            exact ⟨⟨_, rfl⟩, blk_far (p := ⟨ga, 0, none⟩) MG.out NGA.out _, blk_put MA.out 0 _ rfl, fun k hk h1 h2 => (Below.heap_setCell _ _ _ _ h2).trans ((Below.heap_setCell _ _ _ _ h1).trans (LB.out k hk)), below_set (below_set LW.out GG.out) GA.out⟩
          · have k3b : decide (y.f2 ≤ nd.f2) = false := decide_eq_false k3
            rw [k3b]
            clear k3
            have MA := Aside0.mk (show ((w.alloc (.cells #[.int .u8 y.f0, .int .i64 y.f1, .int .i64 y.f2, .int .i64 y.f3] 47)).setCell ⟨gg, 0, none⟩ (.bool false)).heap[ga]? = _ from blk_far (p := ⟨gg, 0, none⟩) LA.out NGA.out.symm _)
            have M6 := Aside0.mk (show ((w.alloc (.cells #[.int .u8 y.f0, .int .i64 y.f1, .int .i64 y.f2, .int .i64 y.f3] 47)).setCell ⟨gg, 0, none⟩ (.bool false)).heap[w.heap.size]? = _ from blk_far (p := ⟨gg, 0, none⟩) L6.out E2.out.symm _)
            have MG := Aside0.mk (show ((w.alloc (.cells #[.int .u8 y.f0, .int .i64 y.f1, .int .i64 y.f2, .int .i64 y.f3] 47)).setCell ⟨gg, 0, none⟩ (.bool false)).heap[gg]? = some (.cells #[.bool false] 4 (0, 0)) from blk_put LG.out 0 _ rfl)
            have ca2 : ((w.alloc (.cells #[.int .u8 y.f0, .int .i64 y.f1, .int .i64 y.f2, .int .i64 y.f3] 47)).setCell ⟨gg, 0, none⟩ (.bool false)).cell? ⟨ga, 0, none⟩ = some (.int .i64 a) := (blk_cell MA.out 0).trans rfl
            have fa2 := blk_frozen MA.out 0
            have c62 : ((w.alloc (.cells #[.int .u8 y.f0, .int .i64 y.f1, .int .i64 y.f2, .int .i64 y.f3] 47)).setCell ⟨gg, 0, none⟩ (.bool false)).cell? ⟨w.heap.size, 2, none⟩ = some (.int .i64 y.f2) := (blk_cell M6.out 2).trans rfl
            go_enter Try.func61, Try.ntmps61
            go_wp2
            first | go_end0 | ((try simp only [Exit.inBlock, Exit.then]); refine bodyPost_ret (results_none rfl _ _ _) rfl ?_)
            exact ⟨⟨_, rfl⟩, blk_far (p := ⟨ga, 0, none⟩) MG.out NGA.out _, blk_put MA.out 0 _ rfl, fun k hk h1 h2 => (Below.heap_setCell _ _ _ _ h2).trans ((Below.heap_setCell _ _ _ _ h1).trans (LB.out k hk)), below_set (below_set LW.out GG.out) GA.out⟩
        · have k2b : decide (a ≤ y.f1) = false := decide_eq_false k2
          rw [k2b, Bool.false_and]
          clear k2
          have MA := Aside0.mk (show ((w.alloc (.cells #[.int .u8 y.f0, .int .i64 y.f1, .int .i64 y.f2, .int .i64 y.f3] 47)).setCell ⟨gg, 0, none⟩ (.bool false)).heap[ga]? = _ from blk_far (p := ⟨gg, 0, none⟩) LA.out NGA.out.symm _)
          have M6 := Aside0.mk (show ((w.alloc (.cells #[.int .u8 y.f0, .int .i64 y.f1, .int .i64 y.f2, .int .i64 y.f3] 47)).setCell ⟨gg, 0, none⟩ (.bool false)).heap[w.heap.size]? = _ from blk_far (p := ⟨gg, 0, none⟩) L6.out E2.out.symm _)
          have MG := Aside0.mk (show ((w.alloc (.cells #[.int .u8 y.f0, .int .i64 y.f1, .int .i64 y.f2, .int .i64 y.f3] 47)).setCell ⟨gg, 0, none⟩ (.bool false)).heap[gg]? = some (.cells #[.bool false] 4 (0, 0)) from blk_put LG.out 0 _ rfl)
          have ca2 : ((w.alloc (.cells #[.int .u8 y.f0, .int .i64 y.f1, .int .i64 y.f2, .int .i64 y.f3] 47)).setCell ⟨gg, 0, none⟩ (.bool false)).cell? ⟨ga, 0, none⟩ = some (.int .i64 a) := (blk_cell MA.out 0).trans rfl
          have fa2 := blk_frozen MA.out 0
          have c62 : ((w.alloc (.cells #[.int .u8 y.f0, .int .i64 y.f1, .int .i64 y.f2, .int .i64 y.f3] 47)).setCell ⟨gg, 0, none⟩ (.bool false)).cell? ⟨w.heap.size, 2, none⟩ = some (.int .i64 y.f2) := (blk_cell M6.out 2).trans rfl
          go_enter Try.func61, Try.ntmps61
          go_wp2
          first | go_end0 | ((try simp only [Exit.inBlock, Exit.then]); refine bodyPost_ret (results_none rfl _ _ _) rfl ?_)
          exact ⟨⟨_, rfl⟩, blk_far (p := ⟨ga, 0, none⟩) MG.out NGA.out _, blk_put MA.out 0 _ rfl, fun k hk h1 h2 => (Below.heap_setCell _ _ _ _ h2).trans ((Below.heap_setCell _ _ _ _ h1).trans (LB.out k hk)), below_set (below_set LW.out GG.out) GA.out⟩
end Go.Proofs.Ytodldpdnhcafpaa.K

namespace Go.Proofs.Ytodldpdnhcafpaa.F
open Go.RowKit Go.Proofs.YtodldpdnhcafpaaW.PrintWords Go.Proofs.YtodldpdnhcafpaaW.PrintLast Go.Proofs.YtodldpdnhcafpaaW.PrintMore
open Go.Proofs.Ytodldpdnhcafpaa.K
set_option linter.unusedVariables false
set_option linter.unusedSimpArgs false

def vfold (l : List S47) (nd : S47) (ks : List Int) : Bool × Int := ks.foldl (fun s x => vstep nd (rd_T47 l x) s.1 s.2) (true, nd.f1)
theorem vfold_snoc (l : List S47) (nd : S47) (ks : List Int) (x : Int) : vfold l nd (ks ++ [x]) = vstep nd (rd_T47 l x) (vfold l nd ks).1 (vfold l nd ks).2 := by simp [vfold]
def tree_Valid.l0 : Nat → List S47 → Int → Int → Option Bool
  | 0, _, _, _ => none
  | k + 1, l, q, i => if i < (l.length : Int) then (if 0 ≤ i then (if (rd_T47 l i).f1 < 0 then some false else if (rd_T47 l i).f2 < (rd_T47 l i).f1 then some false else if (rd_T47 l i).f2 > q then some false else (kids.f k l i).bind fun r => (if (vfold l (rd_T47 l i) r.1).1 = true then tree_Valid.l0 k l q (wrap64 (i + 1)) else some false)) else none) else some true
def tree_Valid.f (k : Nat) (l : List S47) (q : Int) : Option Bool := (tree_shaped.f k l).bind fun s => if s = true then tree_Valid.l0 k l q 0 else some false
def ValJ (l : List S47) (nd : S47) (gg ga gt gx : Nat) (vt : Value) (gb : Nat) (pre : List Int) (W : World) : Prop :=
  gb ≠ gg ∧ gb ≠ ga ∧ gt ≠ gg ∧ gt ≠ ga ∧ gx ≠ gg ∧ gx ≠ ga ∧ W.heap[gt]? = some (.cells #[vt] 25 (0, 0)) ∧ W.heap[gx]? = some (.cells #[.int .u8 nd.f0, .int .i64 nd.f1, .int .i64 nd.f2, .int .i64 nd.f3] 47 (0, 0)) ∧
    W.heap[gg]? = some (.cells #[.bool (vfold l nd pre).1] 4 (0, 0)) ∧ W.heap[ga]? = some (.cells #[.int .i64 (vfold l nd pre).2] 3 (0, 0))
set_option maxHeartbeats 8000000 in
set_option maxRecDepth 100000 in
theorem tree_Valid.calls (k : Nat) (A : Option Addr) (c : Nat) (l : List S47) (q : Int) (r : Bool) (w : World) (hr : Kd.C k47 w A l.length l) (hc : l.length ≤ c) (h : tree_Valid.f k l q = some r) :
    Calls Try.prog 44 #[.agg #[.slice A l.length c], .int .i64 q] w fun e w' => e = .returned (.bool r) ∧ Below w.heap.size w w' := by
  have hu25 := Try.underlying25
  have HR := Aside0.mk hr
  have HC := Aside0.mk hc
  obtain ⟨s, hs, h⟩ := Option.bind_eq_some_iff.1 h
  have HS := Aside0.mk hs
  have HF := Aside0.mk h
  clear h hr hc hs
  have HB := Aside0.mk (Below.refl w.heap.size w)
  have EG : ∀ args W, (callFunc 61 args).run Try.prog W = .ok (.enter 61 args) W := fun args W => enters_ Try.func61 (by kernel_rfl) rfl args W
  have EG' := Aside0.mk EG
  clear EG
  go_enter Try.func44, Try.ntmps44
  go_wp2_with (first
    | ((with_reducible refine gate_dst (N := 2) rfl ?_); refine box_event ?hg2 (N := 2) ?hd2 (cs := #[.slice A l.length c]) (t := 25) ?hr2 ?_; (case hd2 => rfl); (case hg2 => rfl); (case hr2 => first | (go_simp; done) | (go_simp; rfl)); intro g2 hg w1 hbox hb; have n0_ := Aside0.mk (below_step HB.out hb); have n1_ := Aside0.mk hbox; clear HB; have HB := n0_; have BK2 := n1_; clear n0_ n1_ hb hbox hg; have hcz2 : w1.cell? ⟨g2, 0, none⟩ = some (.slice A l.length c) := (blk_cell BK2.out 0).trans rfl))
  refine (tree_shaped.calls k A c l s _ (Kd.C_below HR.out HB.out) HC.out HS.out).mono ?_
  rintro e w2 ⟨rfl, hb⟩
  have n0_ := Aside0.mk (below_step HB.out hb)
  have n1_ := Aside0.mk (blk_below BK2.out hb)
  clear HB BK2 hcz2 hb
  have HB := n0_
  have BK2 := n1_
  clear n0_ n1_
  have hcz2 : w2.cell? ⟨g2, 0, none⟩ = some (.slice A l.length c) := (blk_cell BK2.out 0).trans rfl
  cases s with
  | false =>
    have he := HF.out
    simp only [Bool.false_eq_true, if_false] at he
    obtain rfl := Option.some.inj he
    go_wp2
    go_ret
    exact ⟨rfl, HB.out⟩
  | true =>
    have H' := Aside0.mk (show tree_Valid.l0 k l q 0 = some r by simpa using HF.out)
    clear HF
    go_wp2
    go_loopg [15] k (fun kq v15 w' => ∃ (i : Int), v15 = .int .i64 i ∧ Aside0 (tree_Valid.l0 kq l q i = some r) ∧ Aside0 (kq ≤ k) ∧ Aside0 (w'.heap[g2]? = some (.cells #[.slice A l.length c] 25 (0, 0))) ∧ Aside0 (Below w.heap.size w w'))
    case atStart => exact ⟨0, by first | rfl | simp, H', ⟨Nat.le_refl _⟩, BK2, HB⟩
    case round =>
      clear hcz2 BK2 HB H'
      obtain ⟨i, rfl, HA, HK, BK2, HB⟩ := hrel
      cases gk with
      | zero => exact absurd HA.out (by simp [tree_Valid.l0])
      | succ k3 =>
        have H := HA.out
        clear HA
        simp only [tree_Valid.l0] at H
        by_cases c1 : i < (l.length : Int)
        · rw [if_pos c1] at H
          by_cases c2 : 0 ≤ i
          · rw [if_pos c2] at H
            have c1b : decide (i < (l.length : Int)) = true := decide_eq_true c1
            have c2b : decide (0 ≤ i) = true := decide_eq_true c2
            obtain ⟨ad, e2, hx0, hx1, hx2, hx3⟩ := at_T47 (Kd.C_below HR.out HB.out) i c2 c1
            subst e2
            replace c1 := eq_true c1
            replace c2 := eq_true c2
            obtain ⟨y, hy⟩ : ∃ y, rd_T47 l i = y := ⟨_, rfl⟩
            rw [hy] at hx0 hx1 hx2 hx3 H
            clear hy
            have hcz2 : wr.cell? ⟨g2, 0, none⟩ = some (.slice (some ad) l.length c) := (blk_cell BK2.out 0).trans rfl
            by_cases c3 : y.f1 < 0
            · rw [if_pos c3] at H
              have c3b : decide (y.f1 < 0) = true := decide_eq_true c3
              clear c3
              obtain rfl := Option.some.inj H
              go_wp2
              go_ret
              exact ⟨rfl, by repeat (first | exact HB.out | apply below_drew1 | apply pw_below_drewN | apply below_alloc)⟩
            · rw [if_neg c3] at H
              have c3b : decide (y.f1 < 0) = false := decide_eq_false c3
              clear c3
              by_cases c4 : y.f2 < y.f1
              · rw [if_pos c4] at H
                have c4b : decide (y.f2 < y.f1) = true := decide_eq_true c4
                clear c4
                obtain rfl := Option.some.inj H
                go_wp2
                go_ret
                exact ⟨rfl, by repeat (first | exact HB.out | apply below_drew1 | apply pw_below_drewN | apply below_alloc)⟩
              · rw [if_neg c4] at H
                have c4b : decide (y.f2 < y.f1) = false := decide_eq_false c4
                clear c4
                by_cases c5 : y.f2 > q
                · rw [if_pos c5] at H
                  have c5b : decide (q < y.f2) = true := decide_eq_true c5
                  clear c5
                  obtain rfl := Option.some.inj H
                  go_wp2
                  go_ret
                  exact ⟨rfl, by repeat (first | exact HB.out | apply below_drew1 | apply pw_below_drewN | apply below_alloc)⟩
                · rw [if_neg c5] at H
                  have c5b : decide (q < y.f2) = false := decide_eq_false c5
                  clear c5
                  have B3 : Below wr.heap.size wr (((wr.alloc (.cells #[.int .u8 y.f0, .int .i64 y.f1, .int .i64 y.f2, .int .i64 y.f3] 47)).alloc (.cells #[.int .i64 y.f1] 3)).alloc (.cells #[.bool true] 4)) := below_alloc (below_alloc (below_alloc (Below.refl _ _) _) _) _
                  have L2 := Aside0.mk (blk_below BK2.out B3)
                  have lx0 := heap_alloc_new wr (.cells #[.int .u8 y.f0, .int .i64 y.f1, .int .i64 y.f2, .int .i64 y.f3] 47)
                  have LX := Aside0.mk (blk_below (blk_below lx0 (below_alloc (Below.refl _ _) (.cells #[.int .i64 y.f1] 3))) (below_alloc (Below.refl _ _) (.cells #[.bool true] 4)))
                  have la0 := heap_alloc_new (wr.alloc (.cells #[.int .u8 y.f0, .int .i64 y.f1, .int .i64 y.f2, .int .i64 y.f3] 47)) (.cells #[.int .i64 y.f1] 3)
                  rw [World.size_alloc] at la0
                  have LA := Aside0.mk (blk_below la0 (below_alloc (Below.refl _ _) (.cells #[.bool true] 4)))
                  have lg0 := heap_alloc_new ((wr.alloc (.cells #[.int .u8 y.f0, .int .i64 y.f1, .int .i64 y.f2, .int .i64 y.f3] 47)).alloc (.cells #[.int .i64 y.f1] 3)) (.cells #[.bool true] 4)
                  rw [World.size_alloc, World.size_alloc] at lg0
                  have LG := Aside0.mk lg0
                  have GLT := Aside0.mk (blk_lt BK2.out)
                  have LB := Aside0.mk (show Below w.heap.size w (((wr.alloc (.cells #[.int .u8 y.f0, .int .i64 y.f1, .int .i64 y.f2, .int .i64 y.f3] 47)).alloc (.cells #[.int .i64 y.f1] 3)).alloc (.cells #[.bool true] 4)) from below_step HB.out B3)
                  have HSZ := Aside0.mk HB.out.size
                  have hczg2 : (((wr.alloc (.cells #[.int .u8 y.f0, .int .i64 y.f1, .int .i64 y.f2, .int .i64 y.f3] 47)).alloc (.cells #[.int .i64 y.f1] 3)).alloc (.cells #[.bool true] 4)).cell? ⟨g2, 0, none⟩ = some (.slice (some ad) l.length c) := (blk_cell L2.out 0).trans rfl
                  clear B3 lx0 la0 lg0
                  go_wp2_with fail
                  obtain ⟨⟨ks, ok⟩, hk, H⟩ := Option.bind_eq_some_iff.1 H
                  refine (kids.calls 61 #[.pointer (some ⟨g2, 0, none⟩), .pointer (some ⟨(wr.heap.size + 1 + 1), 0, none⟩), .pointer (some ⟨wr.heap.size, 0, none⟩), .pointer (some ⟨(wr.heap.size + 1), 0, none⟩)] EG'.out (ValJ l y (wr.heap.size + 1 + 1) (wr.heap.size + 1) g2 wr.heap.size (.slice (some ad) l.length c)) k3 (some ad) c l i ks ok w _ HR.out HC.out LB.out hk ?h0 ?hal ?hY).mono ?_
                  case h0 =>
                    intro gb hgb
                    have e1 := blk_lt LG.out
                    have e2 := GLT.out
                    exact ⟨by omega, by omega, by omega, by omega, by omega, by omega, L2.out, LX.out, LG.out, LA.out⟩
                  case hal =>
                    rintro gb pre W W' ⟨h1, h2, h3, h4, h5, h6, h7, h8, h9, h10⟩ hb
                    exact ⟨h1, h2, h3, h4, h5, h6, blk_below h7 hb, blk_below h8 hb, blk_below h9 hb, blk_below h10 hb⟩
                  case hY =>
                    rintro gb pre x W hp h0 h1 ⟨j1, j2, j3, j4, j5, j6, j7, j8, j9, j10⟩ hge hlt hbW
                    refine (valid1.calls x l (some ad) c y (vfold l y pre).1 (vfold l y pre).2 g2 (wr.heap.size + 1 + 1) wr.heap.size (wr.heap.size + 1) w W j7 j9 j8 j10 (Kd.C_below HR.out hbW) h0 h1 hbW (by have := HSZ.out; omega) (by have := HSZ.out; omega)).mono ?_
                    rintro e w' ⟨hv, b1, b2, b3, b4⟩
                    rw [← vfold_snoc] at b1 b2
                    exact ⟨hv, ⟨j1, j2, j3, j4, j5, j6, (b3 _ (blk_lt j7) j3 j4).trans j7, (b3 _ (blk_lt j8) j5 j6).trans j8, b1, b2⟩, b3 gb hlt j1 j2, b4⟩
                  rintro e w7 ⟨rfl, ⟨gb, hj⟩, hb3⟩
                  obtain ⟨j1, j2, j3, j4, j5, j6, j7, j8, j9, j10⟩ := hj
                  have M2 := Aside0.mk j7
                  have MG := Aside0.mk j9
                  have MB := Aside0.mk hb3
                  have HE := Aside0.mk H
                  clear j1 j2 j3 j4 j5 j6 j7 j8 j9 j10 hb3 hczg2 hcz2 hx0 hx1 hx2 hx3 L2 LX LA LG LB BK2 HB hk H
                  have hcz2 : w7.cell? ⟨g2, 0, none⟩ = some (.slice (some ad) l.length c) := (blk_cell M2.out 0).trans rfl
                  by_cases c6 : (vfold l y ks).1 = true
                  · have H' := Aside0.mk (show tree_Valid.l0 k3 l q (wrap64 (i + 1)) = some r by simpa [c6] using HE.out)
                    have hczg : w7.cell? ⟨(wr.heap.size + 1 + 1), 0, none⟩ = some (.bool true) := by rw [← c6]; exact (blk_cell MG.out 0).trans rfl
                    clear c6
                    go_wp2
                    go_roundg k3
                    case measure => have := HK.out; omega
                    case rel => exact ⟨wrap64 (i + 1), by first | rfl | simp, H', ⟨by have := HK.out; omega⟩, M2, MB⟩
                  · have he : some false = some r := by simpa [c6] using HE.out
                    obtain rfl := Option.some.inj he
                    have c7 : (vfold l y ks).1 = false := by simpa using c6
                    have hczg : w7.cell? ⟨(wr.heap.size + 1 + 1), 0, none⟩ = some (.bool false) := by rw [← c7]; exact (blk_cell MG.out 0).trans rfl
                    clear c6 c7 he
                    go_wp2
                    go_ret
                    exact ⟨rfl, MB.out⟩
          · rw [if_neg c2] at H
            exact absurd H (by simp)
        · rw [if_neg c1] at H
          have c1b : decide (i < (l.length : Int)) = false := decide_eq_false c1
          clear c1
          obtain rfl := Option.some.inj H
          go_wp2
          go_ret
          exact ⟨rfl, by repeat (first | exact HB.out | apply below_drew1 | apply pw_below_drewN | apply below_alloc)⟩
end Go.Proofs.Ytodldpdnhcafpaa.F
