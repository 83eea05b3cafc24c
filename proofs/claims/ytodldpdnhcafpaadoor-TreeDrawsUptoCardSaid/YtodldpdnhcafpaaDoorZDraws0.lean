/- Texts of the proof of one law (Draws), part 0: functions printed as Lean functions with their walks, and what is proved of them. Conditions: those of each theorem. -/
import Derived.Test.YtodldpdnhcafpaaDoorWMore
import Derived.Deep.MidRow
import Derived.Test.YtodldpdnhcafpaaDoorProg
import Derived.Test.YtodldpdnhcafpaaDoorWWords
import Derived.Below
import Derived.Deep.Draws
import Derived.Deep.AppendLies
import Derived.Maps.AppendAt
import Derived.OwnWalk
import Derived.Laws.BytesArg
import Derived.Laws.MakeOwn
import Derived.Laws.OwnMore
import Derived.Deep.OwnRows
import Derived.Tactics
import Derived.Lib.ConvBytes
import Derived.Laws.Slices
import Derived.WalkKit
import Derived.KernelRfl
import Derived.RowKit3
import Derived.Deep.LoopGhost
import Derived.Deep.QuietTactic
import Derived.BigQuiet
import Derived.WideLaws
import Derived.Deep.DeepCutAuto
import Derived.Deep.CutBlock
import Derived.Deep.RegionHeld3
import Derived.Laws.Rows
import Derived.Lib.AppendStr
import Derived.ArgAppend
import Derived.Laws.IdiomCopy
import Derived.OrdersHeld
import Derived.Laws.BitsLemmas
import Derived.WalkMore
import Derived.RowKit
import Derived.Test.YtodldpdnhcafpaaDoorWLast
import Derived.Test.YtodldpdnhcafpaaDoorWTab
import Derived.Test.YtodldpdnhcafpaaDoorWFour
import Derived.Test.YtodldpdnhcafpaaDoorWQPut
import Derived.Test.YtodldpdnhcafpaaDoorWApart
import Derived.Test.YtodldpdnhcafpaaDoorWArr
import Derived.Test.YtodldpdnhcafpaaDoorWZeros
import Derived.Test.YtodldpdnhcafpaaDoorWFoot
import Derived.Test.YtodldpdnhcafpaaDoorWKept
import Derived.Test.YtodldpdnhcafpaaDoorWShare
import Derived.Test.YtodldpdnhcafpaaDoorWN
import Derived.Test.YtodldpdnhcafpaaDoorWFootNe
import Derived.Test.YtodldpdnhcafpaaDoorWAt
import Derived.Test.YtodldpdnhcafpaaDoorWEqStruct
import Derived.Test.YtodldpdnhcafpaaDoorWRepsOne
import Derived.Test.YtodldpdnhcafpaaDoorWInv
import Derived.Test.YtodldpdnhcafpaaDoorWInvWords
import Derived.Test.YtodldpdnhcafpaaDoorWGuard
import Derived.Test.YtodldpdnhcafpaaDoorWNEv
import Derived.Lib.Strings
import Derived.BigRegion
-- made by wip/mkgtab.py: the table of the kinds' names, in its two package variables: what their cells hold
namespace Go.Proofs.YtodldpdnhcafpaaDoor.F
open Go.RowKit Go.Proofs.YtodldpdnhcafpaaDoorW.PrintWords Go.Proofs.YtodldpdnhcafpaaDoorW.PrintLast Go.Proofs.YtodldpdnhcafpaaDoorW.PrintMore
set_option linter.unusedVariables false
set_option linter.unusedSimpArgs false
/-- The kinds' names. -/
def tabG0 : List ByteArray := [⟨#[78, 111, 110, 101]⟩, ⟨#[76, 105, 115, 116]⟩, ⟨#[70, 105, 108, 101]⟩, ⟨#[73, 109, 112, 111, 114, 116]⟩, ⟨#[73, 109, 112, 111, 114, 116, 83, 112, 101, 99]⟩, ⟨#[67, 111, 110, 115, 116]⟩, ⟨#[86, 97, 114]⟩, ⟨#[84, 121, 112, 101, 115]⟩, ⟨#[67, 111, 110, 115, 116, 83, 112, 101, 99]⟩, ⟨#[86, 97, 114, 83, 112, 101, 99]⟩, ⟨#[84, 121, 112, 101, 83, 112, 101, 99]⟩, ⟨#[70, 117, 110, 99]⟩, ⟨#[82, 101, 99, 118]⟩, ⟨#[83, 105, 103]⟩, ⟨#[80, 97, 114, 97, 109]⟩, ⟨#[83, 116, 114, 117, 99, 116]⟩, ⟨#[70, 105, 101, 108, 100]⟩, ⟨#[69, 109, 98, 101, 100]⟩, ⟨#[73, 110, 116, 101, 114, 102, 97, 99, 101]⟩, ⟨#[77, 101, 116, 104, 111, 100]⟩, ⟨#[83, 104, 97, 112, 101]⟩, ⟨#[83, 116, 97, 114]⟩, ⟨#[83, 108, 105, 99, 101, 79, 102]⟩, ⟨#[77, 97, 112, 79, 102]⟩, ⟨#[70, 117, 110, 99, 79, 102]⟩, ⟨#[80, 97, 114, 101, 110]⟩, ⟨#[83, 101, 108, 101, 99, 116]⟩, ⟨#[66, 108, 111, 99, 107]⟩, ⟨#[73, 102]⟩, ⟨#[83, 119, 105, 116, 99, 104]⟩, ⟨#[77, 97, 116, 99, 104]⟩, ⟨#[67, 97, 115, 101]⟩, ⟨#[68, 101, 102, 97, 117, 108, 116]⟩, ⟨#[70, 111, 114]⟩, ⟨#[82, 97, 110, 103, 101]⟩, ⟨#[76, 97, 98, 101, 108]⟩, ⟨#[82, 101, 116, 117, 114, 110]⟩, ⟨#[66, 114, 101, 97, 107]⟩, ⟨#[67, 111, 110, 116, 105, 110, 117, 101]⟩, ⟨#[70, 97, 108, 108]⟩, ⟨#[69, 109, 112, 116, 121]⟩, ⟨#[68, 111]⟩, ⟨#[83, 116, 101, 112]⟩, ⟨#[65, 115, 115, 105, 103, 110]⟩, ⟨#[68, 101, 102, 105, 110, 101]⟩, ⟨#[78, 97, 109, 101]⟩, ⟨#[78, 117, 109, 98, 101, 114]⟩, ⟨#[67, 104, 97, 114]⟩, ⟨#[84, 101, 120, 116]⟩, ⟨#[66, 105, 110, 97, 114, 121]⟩, ⟨#[83, 105, 103, 110]⟩, ⟨#[73, 110, 100, 101, 120]⟩, ⟨#[83, 108, 105, 99, 101]⟩, ⟨#[65, 115, 115, 101, 114, 116]⟩, ⟨#[67, 97, 108, 108]⟩, ⟨#[70, 117, 110, 99, 76, 105, 116]⟩, ⟨#[67, 111, 109, 112, 111, 115, 105, 116, 101]⟩, ⟨#[80, 97, 105, 114]⟩]
abbrev tabG1 : List ByteArray := tabG0
theorem tab_len : tabG0.length = 58 := rfl
/-- Both variables hold them. -/
structure SG (w : World) : Prop where
  g0 : Kd.string.C w (some ⟨0, 0, none⟩) 58 tabG0
  g1 : Kd.string.C w (some ⟨1, 0, none⟩) 58 tabG1
theorem SG.below {w w' : World} (h : SG w) (hb : Below w.heap.size w w') : SG w' := ⟨Kd.C_below h.g0 hb, Kd.C_below h.g1 hb⟩
/-- The table, as one value. -/
theorem tab_range {w : World} (h : Kd.string.C w (some ⟨0, 0, none⟩) 58 tabG0) : w.rangeAt 0 0 (tabG0.map Value.string) := fun j v hj => by
  rw [List.getElem?_map, Option.map_eq_some_iff] at hj
  obtain ⟨s, hs, rfl⟩ := hj
  have hl : j < 58 := by have := (List.getElem?_eq_some_iff.1 hs).1; rw [tab_len] at this; exact this
  obtain ⟨ad, e, hx⟩ := Kd.at_string h (j : Int) (by omega) (by omega)
  obtain rfl : (⟨0, 0, none⟩ : Addr) = ad := by injection e
  rw [Int.toNat_natCast, Addr.add_mid] at hx
  rw [hx]
  simp [rdOf, List.getD_eq_getElem?_getD, hs]
theorem tab_at {i : Int} (h0 : 0 ≤ i) (h1 : i < 58) : (tabG0.map Value.string).toArray[i.toNat]? = some (.string (rdOf ByteArray.empty tabG0 i)) := by
  have hl : i.toNat < tabG0.length := by rw [tab_len]; omega
  simp [rdOf, List.getD_eq_getElem?_getD, hl]
/-- An element of the table as one value. -/
theorem tab_index (i : Int) (h0 : 0 ≤ i) (h1 : i < 58) : ∀ w : World, (Instr.index 87 (.agg (tabG0.map Value.string).toArray) (.int .i64 i)).run Tryd.prog w = .ok (.string (rdOf ByteArray.empty tabG0 i)) w := fun w => by
  have hx := tab_at h0 h1
  have hn : (0 ≤ i ∧ i < ((58 : Nat) : Int)) := by omega
  obtain ⟨i9, hi9⟩ : ∃ j, Tryd.prog.info? 9 = some j := ⟨_, Option.eq_some_of_isSome (by kernel_rfl)⟩
  have hz : i9.size = 1 := by
    have : (Tryd.prog.info? 9).map (·.size) = some 1 := by kernel_rfl
    rw [hi9] at this
    exact Option.some.inj this
  have hagg : (isAgg 9).run Tryd.prog w = .ok false w := by
    unfold isAgg
    rw [Sem.run_bind, run_underlying Tryd.underlying9 w]
    rfl
  simp only [Instr.index, asIntOf, Sem.run_bind, Sem.run_pure, Result.andThen_ok, run_underlying Tryd.underlying87 w]
  rw [if_pos hn]
  have hx' : Option.map Value.string tabG0[i.toNat]? = some (Value.string (rdOf ByteArray.empty tabG0 i)) := by simpa using hx
  simp [part, sizeOf, typeInfo, hi9, hz, hagg, Sem.run_bind, go_sem]
  rw [hx']
  rfl
end Go.Proofs.YtodldpdnhcafpaaDoor.F

-- A text of this session's own program (wip/myprint.sh over a changed print tool): functions and their walks
namespace Go.Proofs.YtodldpdnhcafpaaDoor.F
open Go.RowKit Go.Proofs.YtodldpdnhcafpaaDoorW.PrintWords Go.Proofs.YtodldpdnhcafpaaDoorW.PrintLast Go.Proofs.YtodldpdnhcafpaaDoorW.PrintMore
attribute [local go_sem] max2_int min2_int max_two min_two max_three min_three max_four min_four   -- for this text's walks alone
set_option linter.unusedVariables false
set_option linter.unusedSimpArgs false



def errW : Option Int → Value
  | none => .nilIface
  | some c => .iface 0 (.int .i64 c)
theorem errW_none : errW none = .nilIface := rfl
theorem errW_some (c : Int) : errW (some c) = .iface 0 (.int .i64 c) := rfl

theorem info3 : (Tryd.prog.info? 3).map (fun i => (i.zero, i.size, i.bytes)) = some (some (.int .i64 0), 1, 8) := by kernel_rfl
theorem info43 : (Tryd.prog.info? 43).map (fun i => (i.zero, i.size, i.bytes)) = some (some (.agg #[(.int .u8 0), (.int .i64 0), (.int .i64 0), (.int .i64 0)]), 4, 32) := by kernel_rfl
-- the values' own types
/-! #### struct type 43 -/
structure S43 where
  f0 : Int
  f1 : Int
  f2 : Int
  f3 : Int
def z43 : S43 := ⟨(0 : Int), (0 : Int), (0 : Int), (0 : Int)⟩
def k43 : Kd S43 := Kd.iso (Kd.pair (Kd.int .u8) (Kd.pair (Kd.int .i64) (Kd.pair (Kd.int .i64) (Kd.int .i64)))) (fun x : S43 => (x.f0, x.f1, x.f2, x.f3))
theorem k43_open {w : World} {x : S43} {cs : List Value} (h : k43.K w x cs) : cs = [.int .u8 x.f0, .int .i64 x.f1, .int .i64 x.f2, .int .i64 x.f3] := by
  obtain ⟨_, _, rfl, rfl, ⟨_, _, rfl, rfl, ⟨_, _, rfl, rfl, rfl⟩⟩⟩ := h
  exact rfl
theorem k43_openM {w : World} {base : Nat} {ok : Nat → Prop} {x : S43} {cs : List Value} (h : k43.M w base ok x cs) : cs = [.int .u8 x.f0, .int .i64 x.f1, .int .i64 x.f2, .int .i64 x.f3] := by
  obtain ⟨_, _, rfl, rfl, ⟨_, _, rfl, rfl, ⟨_, _, rfl, rfl, rfl⟩⟩⟩ := h
  exact rfl
theorem k43_mkM (w : World) (base : Nat) (ok : Nat → Prop) (x : S43)  : k43.M w base ok x [.int .u8 x.f0, .int .i64 x.f1, .int .i64 x.f2, .int .i64 x.f3] := ⟨[.int .u8 x.f0], [.int .i64 x.f1, .int .i64 x.f2, .int .i64 x.f3], rfl, rfl, ⟨[.int .i64 x.f1], [.int .i64 x.f2, .int .i64 x.f3], rfl, rfl, ⟨[.int .i64 x.f2], [.int .i64 x.f3], rfl, rfl, rfl⟩⟩⟩
def rd_T43 (xs : List S43) (i : Int) : S43 := xs.getD i.toNat z43
theorem at_T43 {w : World} {A : Option Addr} {n : Nat} {xs : List S43} (h : Kd.C k43 w A n xs) (i : Int) (h0 : 0 ≤ i) (h1 : i < n) : ∃ ad , A = some ad ∧ w.cell? (ad.add (i.toNat * 4)) = some (.int .u8 (rd_T43 xs i).f0) ∧ w.cell? ⟨(ad.add (i.toNat * 4)).block, (ad.add (i.toNat * 4)).off + 1, none⟩ = some (.int .i64 (rd_T43 xs i).f1) ∧ w.cell? ⟨(ad.add (i.toNat * 4)).block, (ad.add (i.toNat * 4)).off + 2, none⟩ = some (.int .i64 (rd_T43 xs i).f2) ∧ w.cell? ⟨(ad.add (i.toNat * 4)).block, (ad.add (i.toNat * 4)).off + 3, none⟩ = some (.int .i64 (rd_T43 xs i).f3) := by
  obtain ⟨ad, c, e, _, hK, hc0⟩ := Kd.C_get h z43 i h0 h1
  have hc : ∀ j u, c[j]? = some u → w.cell? (ad.add (i.toNat * 4 + j)) = some u := hc0
  obtain rfl := k43_open hK
  exact ⟨ad, e, hc 0 _ rfl, by rw [← add_field _ _ 1 (by omega)]; exact hc 1 _ rfl, by rw [← add_field _ _ 2 (by omega)]; exact hc 2 _ rfl, by rw [← add_field _ _ 3 (by omega)]; exact hc 3 _ rfl⟩

/-! #### struct type 68 -/
/-! #### struct type 111 -/
/-! #### struct type 113 -/
/-! #### struct type 115 -/
end Go.Proofs.YtodldpdnhcafpaaDoor.F

-- A text of this session's own program (wip/myprint.sh over a changed print tool): functions and their walks
namespace Go.Proofs.YtodldpdnhcafpaaDoor.F
open Go.RowKit Go.Proofs.YtodldpdnhcafpaaDoorW.PrintWords Go.Proofs.YtodldpdnhcafpaaDoorW.PrintLast Go.Proofs.YtodldpdnhcafpaaDoorW.PrintMore
attribute [local go_sem] max2_int min2_int max_two min_two max_three min_three max_four min_four   -- for this text's walks alone
set_option linter.unusedVariables false
set_option linter.unusedSimpArgs false

/-! ### tree_longest: function 35 -/
mutual
def tree_longest.l0 : Nat → ByteArray → Int → Int → Int → Option (Int × Int)
  | 0, _, _, _, _ => none
  | k + 1, x0, x4, x5, x10 => if x10 < 58 then (if 0 ≤ x10 then (tree_longest.l1 k x0 x4 x5 x10 (rdOf ByteArray.empty tabG0 x10) 0 x10) else (none)) else (if x4 ≥ 0 then (if 0 ≤ x4 then (if x4 < 58 then (if ((rdOf ByteArray.empty tabG0 x4).size : Int) < x5 then (some ((-1), x5)) else (some (x4, x5))) else (none)) else (none)) else (some (x4, x5)))
def tree_longest.l1 : Nat → ByteArray → Int → Int → Int → ByteArray → Int → Int → Option (Int × Int)
  | 0, _, _, _, _, _, _, _ => none
  | k + 1, x0, x4, x5, x6, x7, x8, x10 => if x8 < (x0.size : Int) then (if x8 < (x7.size : Int) then (if 0 ≤ x8 then (if (bt x0 x8) = (bt x7 x8) then (tree_longest.l1 k x0 x4 x5 x6 x7 (wrap64 (x8 + 1)) x10) else (if x8 = (x7.size : Int) then (if x4 < 0 then (tree_longest.l0 k x0 x6 (mx x5 x8) (wrap64 (x10 + 1))) else (if 0 ≤ x4 then (if x4 < 58 then (if x8 > ((rdOf ByteArray.empty tabG0 x4).size : Int) then (tree_longest.l0 k x0 x6 (mx x5 x8) (wrap64 (x10 + 1))) else (tree_longest.l0 k x0 x4 (mx x5 x8) (wrap64 (x10 + 1)))) else (none)) else (none))) else (tree_longest.l0 k x0 x4 (mx x5 x8) (wrap64 (x10 + 1))))) else (none)) else (if x8 = (x7.size : Int) then (if x4 < 0 then (tree_longest.l0 k x0 x6 (mx x5 x8) (wrap64 (x10 + 1))) else (if 0 ≤ x4 then (if x4 < 58 then (if x8 > ((rdOf ByteArray.empty tabG0 x4).size : Int) then (tree_longest.l0 k x0 x6 (mx x5 x8) (wrap64 (x10 + 1))) else (tree_longest.l0 k x0 x4 (mx x5 x8) (wrap64 (x10 + 1)))) else (none)) else (none))) else (tree_longest.l0 k x0 x4 (mx x5 x8) (wrap64 (x10 + 1))))) else (if x8 = (x7.size : Int) then (if x4 < 0 then (tree_longest.l0 k x0 x6 (mx x5 x8) (wrap64 (x10 + 1))) else (if 0 ≤ x4 then (if x4 < 58 then (if x8 > ((rdOf ByteArray.empty tabG0 x4).size : Int) then (tree_longest.l0 k x0 x6 (mx x5 x8) (wrap64 (x10 + 1))) else (tree_longest.l0 k x0 x4 (mx x5 x8) (wrap64 (x10 + 1)))) else (none)) else (none))) else (tree_longest.l0 k x0 x4 (mx x5 x8) (wrap64 (x10 + 1))))
end
def tree_longest.f (k : Nat) (a0 : ByteArray) : Option (Int × Int) := tree_longest.l0 k a0 (-1) 0 0
set_option maxHeartbeats 8000000 in
set_option maxRecDepth 100000 in
theorem tree_longest.calls (k : Nat) (a0 : ByteArray) (r1 : Int) (r2 : Int) (w : World) (h : tree_longest.f k a0 = some (r1, r2)) (hs_ : SG w) :
    Calls Tryd.prog 35 #[.string a0] w fun e w' => e = .returned (.tuple #[.int .i64 r1, .int .i64 r2]) ∧ Below w.heap.size w w' := by
  have HRG0 := Aside0.mk hs_.g0
  have HRG1 := Aside0.mk hs_.g1
  have HSG := Aside0.mk hs_
  clear hs_
  have HB := Aside0.mk (Below.refl w.heap.size w)
  have H : (tree_longest.l0 k a0 (-1) 0 0) = some (r1, r2) := h
  clear h
  have H' := Aside0.mk H
  clear H
  have hT := tab_range HRG0.out
  go_enter Tryd.func35, Tryd.ntmps35
  go_wp2_with ((with_reducible refine gate_dst (N := 9) rfl ?_); refine wpList_load_mid rfl 87 _ rfl 0 0 rfl (tabG0.map Value.string) _ hT Tryd.underlying87 rfl (by kernel_rfl) ?_)
  clear hT
  repeat (go_quiet (fail); try go_wp2)
  go_loopg [4, 5, 10] k (fun kq v4 v5 v10 w' => ∃ (x4_1 : Int) (x5_1 : Int) (x10_1 : Int), v4 = .int .i64 x4_1 ∧ v5 = .int .i64 x5_1 ∧ v10 = .int .i64 x10_1 ∧ Aside0 (tree_longest.l0 kq a0 x4_1 x5_1 x10_1 = some (r1, r2)) ∧ Aside0 (kq ≤ k) ∧ Aside0 (Below w.heap.size w w'))
  case atStart => exact ⟨((-1)), (0), (0), (by first | rfl | (simp; done) | (simp [*]; done)), (by first | rfl | (simp; done) | (simp [*]; done)), (by first | rfl | (simp; done) | (simp [*]; done)), H', ⟨Nat.le_refl _⟩, ⟨by repeat (first | (with_reducible first | exact HB.out | apply below_alloc | apply pw_below_drewN | apply below_drew1) | exact HB.out)⟩⟩
  case round =>
    clear H'
    obtain ⟨x4_1, x5_1, x10_1, rfl, rfl, rfl, HA, HK1, HB⟩ := hrel
    cases gk with
    | zero => exact absurd HA.out (by simp [tree_longest.l0])
    | succ k1 =>
      have H := HA.out
      clear HA
      simp only [tree_longest.l0] at H
      by_cases c2 : x10_1 < 58
      · rw [if_pos c2] at H
        have c2b0 : decide (x10_1 < 58) = true := decide_eq_true c2
        clear c2
        by_cases c3 : 0 ≤ x10_1
        · rw [if_pos c3] at H
          have c3b0 : decide (0 ≤ x10_1) = true := decide_eq_true c3
          clear c3
          have H' := Aside0.mk H
          clear H
          have p102 : 0 ≤ (x10_1 : Int) := of_decide_eq_true (by first | (with_reducible assumption) | assumption)
          have q102 : x10_1 < (58 : Int) := of_decide_eq_true (by first | (with_reducible assumption) | assumption)
          obtain ⟨ad102, e102, hx102_0⟩ := Kd.at_string HRG0.out x10_1 p102 q102
          obtain rfl : (⟨0, 0, none⟩ : Addr) = ad102 := (by injection e102)
          (first | simp only [add_plain] at hx102_0 | simp only [add_at] at hx102_0 | simp only [Addr.add, Nat.zero_add] at hx102_0 | skip)
          replace hx102_0 := (HB.out.cell (World.block_lt_of_cell? w _ hx102_0)).trans hx102_0
          replace p102 := eq_true p102
          replace q102 := eq_true q102
          have hti := tab_index x10_1 (of_eq_true p102) (of_eq_true q102)
          go_wp2
          repeat (go_quiet (fail); try go_wp2)
          go_loopg [8] k1 (fun kq v8 w' => ∃ (x8_2 : Int), v8 = .int .i64 x8_2 ∧ Aside0 (tree_longest.l1 kq a0 x4_1 x5_1 x10_1 (rdOf ByteArray.empty tabG0 x10_1) x8_2 x10_1 = some (r1, r2)) ∧ Aside0 (kq ≤ k1) ∧ Aside0 (Below w.heap.size w w'))
          case atStart => exact ⟨(0), (by first | rfl | (simp; done) | (simp [*]; done)), H', ⟨Nat.le_refl _⟩, ⟨by repeat (first | (with_reducible first | exact HB.out | apply below_alloc | apply pw_below_drewN | apply below_drew1) | exact HB.out)⟩⟩
          case round =>
            clear H'
            try clear p1
            try clear q1
            try clear hx1
            try clear c2
            try clear c2b0
            try clear p2
            try clear c3
            try clear c3b0
            try clear hx102_0
            try clear p102
            try clear q102
            clear hti
            obtain ⟨x8_2, rfl, HA, HK2, HB⟩ := hrel
            cases gk with
            | zero => exact absurd HA.out (by simp [tree_longest.l1])
            | succ k2 =>
              have H := HA.out
              clear HA
              simp only [tree_longest.l1] at H
              by_cases c4 : x8_2 < (a0.size : Int)
              · rw [if_pos c4] at H
                have c4b0 : decide (x8_2 < (a0.size : Int)) = true := decide_eq_true c4
                clear c4
                by_cases c5 : x8_2 < ((rdOf ByteArray.empty tabG0 x10_1).size : Int)
                · rw [if_pos c5] at H
                  have c5b0 : decide (x8_2 < ((rdOf ByteArray.empty tabG0 x10_1).size : Int)) = true := decide_eq_true c5
                  clear c5
                  by_cases c6 : 0 ≤ x8_2
                  · rw [if_pos c6] at H
                    have c6b0 : decide (0 ≤ x8_2) = true := decide_eq_true c6
                    clear c6
                    by_cases c9 : (bt a0 x8_2) = (bt (rdOf ByteArray.empty tabG0 x10_1) x8_2)
                    · rw [if_pos c9] at H
                      have c9b0 : ((bt a0 x8_2) == (bt (rdOf ByteArray.empty tabG0 x10_1) x8_2)) = true := beq_iff_eq.mpr c9
                      have c9b1 : ((bt a0 x8_2) != (bt (rdOf ByteArray.empty tabG0 x10_1) x8_2)) = false := bne_eq_false_iff_eq.mpr c9
                      clear c9
                      have H' := Aside0.mk H
                      clear H
                      have p7 : 0 ≤ (x8_2 : Int) := of_decide_eq_true (by first | (with_reducible assumption) | assumption)
                      have q7 : x8_2 < (a0.size : Int) := of_decide_eq_true (by first | (with_reducible assumption) | assumption)
                      have hx7 := bt_at a0 x8_2
                      replace p7 := eq_true p7
                      replace q7 := eq_true q7
                      have p8 : 0 ≤ (x8_2 : Int) := of_decide_eq_true (by first | (with_reducible assumption) | assumption)
                      have q8 : x8_2 < ((rdOf ByteArray.empty tabG0 x10_1).size : Int) := of_decide_eq_true (by first | (with_reducible assumption) | assumption)
                      have hx8 := bt_at (rdOf ByteArray.empty tabG0 x10_1) x8_2
                      replace p8 := eq_true p8
                      replace q8 := eq_true q8
                      go_wp2
                      repeat (go_quiet (fail); try go_wp2)
                      go_roundg k2
                      case measure => have := HK1.out; have := HK2.out; omega
                      case rel => exact ⟨(wrap64 (x8_2 + 1)), (by first | rfl | (simp; done) | (simp [*]; done)), H', ⟨by have := HK1.out; have := HK2.out; omega⟩, ⟨by repeat (first | (with_reducible first | exact HB.out | apply below_alloc | apply pw_below_drewN | apply below_drew1) | exact HB.out)⟩⟩
                    · rw [if_neg c9] at H
                      have c9b0 : ((bt a0 x8_2) == (bt (rdOf ByteArray.empty tabG0 x10_1) x8_2)) = false := beq_eq_false_iff_ne.mpr c9
                      have c9b1 : ((bt a0 x8_2) != (bt (rdOf ByteArray.empty tabG0 x10_1) x8_2)) = true := bne_iff_ne.mpr c9
                      obtain ⟨ji10, hji10⟩ : ∃ j_ : Int, (mx x5_1 x8_2) = j_ := ⟨_, rfl⟩
                      replace H : (if x8_2 = ((rdOf ByteArray.empty tabG0 x10_1).size : Int) then (if x4_1 < 0 then (tree_longest.l0 k2 a0 x10_1 ji10 (wrap64 (x10_1 + 1))) else (if 0 ≤ x4_1 then (if x4_1 < 58 then (if x8_2 > ((rdOf ByteArray.empty tabG0 x4_1).size : Int) then (tree_longest.l0 k2 a0 x10_1 ji10 (wrap64 (x10_1 + 1))) else (tree_longest.l0 k2 a0 x4_1 ji10 (wrap64 (x10_1 + 1)))) else (none)) else (none))) else (tree_longest.l0 k2 a0 x4_1 ji10 (wrap64 (x10_1 + 1)))) = some (r1, r2) := by first | (rw [hji10] at H; exact H) | (simp only [hji10] at H ⊢; exact H)
                      have hji10_ : (if x5_1 < x8_2 then x8_2 else x5_1) = ji10 := hji10
                      by_cases c11 : x8_2 = ((rdOf ByteArray.empty tabG0 x10_1).size : Int)
                      · rw [if_pos c11] at H
                        have c11b0 : (x8_2 == ((rdOf ByteArray.empty tabG0 x10_1).size : Int)) = true := beq_iff_eq.mpr c11
                        have c11b1 : (x8_2 != ((rdOf ByteArray.empty tabG0 x10_1).size : Int)) = false := bne_eq_false_iff_eq.mpr c11
                        clear c11
                        by_cases c12 : x4_1 < 0
                        · rw [if_pos c12] at H
                          have c12b0 : decide (x4_1 < 0) = true := decide_eq_true c12
                          clear c12
                          have H' := Aside0.mk H
                          clear H
                          have p7 : 0 ≤ (x8_2 : Int) := of_decide_eq_true (by first | (with_reducible assumption) | assumption)
                          have q7 : x8_2 < (a0.size : Int) := of_decide_eq_true (by first | (with_reducible assumption) | assumption)
                          have hx7 := bt_at a0 x8_2
                          replace p7 := eq_true p7
                          replace q7 := eq_true q7
                          have p8 : 0 ≤ (x8_2 : Int) := of_decide_eq_true (by first | (with_reducible assumption) | assumption)
                          have q8 : x8_2 < ((rdOf ByteArray.empty tabG0 x10_1).size : Int) := of_decide_eq_true (by first | (with_reducible assumption) | assumption)
                          have hx8 := bt_at (rdOf ByteArray.empty tabG0 x10_1) x8_2
                          replace p8 := eq_true p8
                          replace q8 := eq_true q8
                          go_wp2
                          repeat (go_quiet (fail); try go_wp2)
                          go_roundg k2
                          case measure => have := HK1.out; have := HK2.out; omega
                          case rel => exact ⟨(x10_1), (ji10), (wrap64 (x10_1 + 1)), (by first | rfl | (simp; done) | (simp [*]; done)), (by first | rfl | (simp; done) | (simp only [← hji10] <;> (first | rfl | simp)) | (simp [*]; done)), (by first | rfl | (simp; done) | (simp [*]; done)), H', ⟨by have := HK1.out; have := HK2.out; omega⟩, ⟨by repeat (first | (with_reducible first | exact HB.out | apply below_alloc | apply pw_below_drewN | apply below_drew1) | exact HB.out)⟩⟩
                        · rw [if_neg c12] at H
                          have c12b0 : decide (x4_1 < 0) = false := decide_eq_false c12
                          clear c12
                          by_cases c13 : 0 ≤ x4_1
                          · rw [if_pos c13] at H
                            have c13b0 : decide (0 ≤ x4_1) = true := decide_eq_true c13
                            clear c13
                            by_cases c14 : x4_1 < 58
                            · rw [if_pos c14] at H
                              have c14b0 : decide (x4_1 < 58) = true := decide_eq_true c14
                              clear c14
                              by_cases c15 : x8_2 > ((rdOf ByteArray.empty tabG0 x4_1).size : Int)
                              · rw [if_pos c15] at H
                                have c15b0 : decide (((rdOf ByteArray.empty tabG0 x4_1).size : Int) < x8_2) = true := decide_eq_true c15
                                clear c15
                                have H' := Aside0.mk H
                                clear H
                                have p7 : 0 ≤ (x8_2 : Int) := of_decide_eq_true (by first | (with_reducible assumption) | assumption)
                                have q7 : x8_2 < (a0.size : Int) := of_decide_eq_true (by first | (with_reducible assumption) | assumption)
                                have hx7 := bt_at a0 x8_2
                                replace p7 := eq_true p7
                                replace q7 := eq_true q7
                                have p8 : 0 ≤ (x8_2 : Int) := of_decide_eq_true (by first | (with_reducible assumption) | assumption)
                                have q8 : x8_2 < ((rdOf ByteArray.empty tabG0 x10_1).size : Int) := of_decide_eq_true (by first | (with_reducible assumption) | assumption)
                                have hx8 := bt_at (rdOf ByteArray.empty tabG0 x10_1) x8_2
                                replace p8 := eq_true p8
                                replace q8 := eq_true q8
                                have p103 : 0 ≤ (x4_1 : Int) := of_decide_eq_true (by first | (with_reducible assumption) | assumption)
                                have q103 : x4_1 < (58 : Int) := of_decide_eq_true (by first | (with_reducible assumption) | assumption)
                                obtain ⟨ad103, e103, hx103_0⟩ := Kd.at_string HRG0.out x4_1 p103 q103
                                obtain rfl : (⟨0, 0, none⟩ : Addr) = ad103 := (by injection e103)
                                (first | simp only [add_plain] at hx103_0 | simp only [add_at] at hx103_0 | simp only [Addr.add, Nat.zero_add] at hx103_0 | skip)
                                replace hx103_0 := (HB.out.cell (World.block_lt_of_cell? w _ hx103_0)).trans hx103_0
                                replace p103 := eq_true p103
                                replace q103 := eq_true q103
                                go_wp2
                                repeat (go_quiet (fail); try go_wp2)
                                go_roundg k2
                                case measure => have := HK1.out; have := HK2.out; omega
                                case rel => exact ⟨(x10_1), (ji10), (wrap64 (x10_1 + 1)), (by first | rfl | (simp; done) | (simp [*]; done)), (by first | rfl | (simp; done) | (simp only [← hji10] <;> (first | rfl | simp)) | (simp [*]; done)), (by first | rfl | (simp; done) | (simp [*]; done)), H', ⟨by have := HK1.out; have := HK2.out; omega⟩, ⟨by repeat (first | (with_reducible first | exact HB.out | apply below_alloc | apply pw_below_drewN | apply below_drew1) | exact HB.out)⟩⟩
                              · rw [if_neg c15] at H
                                have c15b0 : decide (((rdOf ByteArray.empty tabG0 x4_1).size : Int) < x8_2) = false := decide_eq_false c15
                                clear c15
                                have H' := Aside0.mk H
                                clear H
                                have p7 : 0 ≤ (x8_2 : Int) := of_decide_eq_true (by first | (with_reducible assumption) | assumption)
                                have q7 : x8_2 < (a0.size : Int) := of_decide_eq_true (by first | (with_reducible assumption) | assumption)
                                have hx7 := bt_at a0 x8_2
                                replace p7 := eq_true p7
                                replace q7 := eq_true q7
                                have p8 : 0 ≤ (x8_2 : Int) := of_decide_eq_true (by first | (with_reducible assumption) | assumption)
                                have q8 : x8_2 < ((rdOf ByteArray.empty tabG0 x10_1).size : Int) := of_decide_eq_true (by first | (with_reducible assumption) | assumption)
                                have hx8 := bt_at (rdOf ByteArray.empty tabG0 x10_1) x8_2
                                replace p8 := eq_true p8
                                replace q8 := eq_true q8
                                have p103 : 0 ≤ (x4_1 : Int) := of_decide_eq_true (by first | (with_reducible assumption) | assumption)
                                have q103 : x4_1 < (58 : Int) := of_decide_eq_true (by first | (with_reducible assumption) | assumption)
                                obtain ⟨ad103, e103, hx103_0⟩ := Kd.at_string HRG0.out x4_1 p103 q103
                                obtain rfl : (⟨0, 0, none⟩ : Addr) = ad103 := (by injection e103)
                                (first | simp only [add_plain] at hx103_0 | simp only [add_at] at hx103_0 | simp only [Addr.add, Nat.zero_add] at hx103_0 | skip)
                                replace hx103_0 := (HB.out.cell (World.block_lt_of_cell? w _ hx103_0)).trans hx103_0
                                replace p103 := eq_true p103
                                replace q103 := eq_true q103
                                go_wp2
                                repeat (go_quiet (fail); try go_wp2)
                                go_roundg k2
                                case measure => have := HK1.out; have := HK2.out; omega
                                case rel => exact ⟨(x4_1), (ji10), (wrap64 (x10_1 + 1)), (by first | rfl | (simp; done) | (simp [*]; done)), (by first | rfl | (simp; done) | (simp only [← hji10] <;> (first | rfl | simp)) | (simp [*]; done)), (by first | rfl | (simp; done) | (simp [*]; done)), H', ⟨by have := HK1.out; have := HK2.out; omega⟩, ⟨by repeat (first | (with_reducible first | exact HB.out | apply below_alloc | apply pw_below_drewN | apply below_drew1) | exact HB.out)⟩⟩
                            · rw [if_neg c14] at H
                              exact absurd H (by simp)
                          · rw [if_neg c13] at H
                            exact absurd H (by simp)
                      · rw [if_neg c11] at H
                        have c11b0 : (x8_2 == ((rdOf ByteArray.empty tabG0 x10_1).size : Int)) = false := beq_eq_false_iff_ne.mpr c11
                        have c11b1 : (x8_2 != ((rdOf ByteArray.empty tabG0 x10_1).size : Int)) = true := bne_iff_ne.mpr c11
                        have H' := Aside0.mk H
                        clear H
                        have p7 : 0 ≤ (x8_2 : Int) := of_decide_eq_true (by first | (with_reducible assumption) | assumption)
                        have q7 : x8_2 < (a0.size : Int) := of_decide_eq_true (by first | (with_reducible assumption) | assumption)
                        have hx7 := bt_at a0 x8_2
                        replace p7 := eq_true p7
                        replace q7 := eq_true q7
                        have p8 : 0 ≤ (x8_2 : Int) := of_decide_eq_true (by first | (with_reducible assumption) | assumption)
                        have q8 : x8_2 < ((rdOf ByteArray.empty tabG0 x10_1).size : Int) := of_decide_eq_true (by first | (with_reducible assumption) | assumption)
                        have hx8 := bt_at (rdOf ByteArray.empty tabG0 x10_1) x8_2
                        replace p8 := eq_true p8
                        replace q8 := eq_true q8
                        go_wp2
                        repeat (go_quiet (fail); try go_wp2)
                        go_roundg k2
                        case measure => have := HK1.out; have := HK2.out; omega
                        case rel => exact ⟨(x4_1), (ji10), (wrap64 (x10_1 + 1)), (by first | rfl | (simp; done) | (simp [*]; done)), (by first | rfl | (simp; done) | (simp only [← hji10] <;> (first | rfl | simp)) | (simp [*]; done)), (by first | rfl | (simp; done) | (simp [*]; done)), H', ⟨by have := HK1.out; have := HK2.out; omega⟩, ⟨by repeat (first | (with_reducible first | exact HB.out | apply below_alloc | apply pw_below_drewN | apply below_drew1) | exact HB.out)⟩⟩
                  · rw [if_neg c6] at H
                    exact absurd H (by simp)
                · rw [if_neg c5] at H
                  have c5b0 : decide (x8_2 < ((rdOf ByteArray.empty tabG0 x10_1).size : Int)) = false := decide_eq_false c5
                  clear c5
                  obtain ⟨ji16, hji16⟩ : ∃ j_ : Int, (mx x5_1 x8_2) = j_ := ⟨_, rfl⟩
                  replace H : (if x8_2 = ((rdOf ByteArray.empty tabG0 x10_1).size : Int) then (if x4_1 < 0 then (tree_longest.l0 k2 a0 x10_1 ji16 (wrap64 (x10_1 + 1))) else (if 0 ≤ x4_1 then (if x4_1 < 58 then (if x8_2 > ((rdOf ByteArray.empty tabG0 x4_1).size : Int) then (tree_longest.l0 k2 a0 x10_1 ji16 (wrap64 (x10_1 + 1))) else (tree_longest.l0 k2 a0 x4_1 ji16 (wrap64 (x10_1 + 1)))) else (none)) else (none))) else (tree_longest.l0 k2 a0 x4_1 ji16 (wrap64 (x10_1 + 1)))) = some (r1, r2) := by first | (rw [hji16] at H; exact H) | (simp only [hji16] at H ⊢; exact H)
                  have hji16_ : (if x5_1 < x8_2 then x8_2 else x5_1) = ji16 := hji16
                  by_cases c17 : x8_2 = ((rdOf ByteArray.empty tabG0 x10_1).size : Int)
                  · rw [if_pos c17] at H
                    have c17b0 : (x8_2 == ((rdOf ByteArray.empty tabG0 x10_1).size : Int)) = true := beq_iff_eq.mpr c17
                    have c17b1 : (x8_2 != ((rdOf ByteArray.empty tabG0 x10_1).size : Int)) = false := bne_eq_false_iff_eq.mpr c17
                    clear c17
                    by_cases c18 : x4_1 < 0
                    · rw [if_pos c18] at H
                      have c18b0 : decide (x4_1 < 0) = true := decide_eq_true c18
                      clear c18
                      have H' := Aside0.mk H
                      clear H
                      go_wp2
                      repeat (go_quiet (fail); try go_wp2)
                      go_roundg k2
                      case measure => have := HK1.out; have := HK2.out; omega
                      case rel => exact ⟨(x10_1), (ji16), (wrap64 (x10_1 + 1)), (by first | rfl | (simp; done) | (simp [*]; done)), (by first | rfl | (simp; done) | (simp only [← hji16] <;> (first | rfl | simp)) | (simp [*]; done)), (by first | rfl | (simp; done) | (simp [*]; done)), H', ⟨by have := HK1.out; have := HK2.out; omega⟩, ⟨by repeat (first | (with_reducible first | exact HB.out | apply below_alloc | apply pw_below_drewN | apply below_drew1) | exact HB.out)⟩⟩
                    · rw [if_neg c18] at H
                      have c18b0 : decide (x4_1 < 0) = false := decide_eq_false c18
                      clear c18
                      by_cases c19 : 0 ≤ x4_1
                      · rw [if_pos c19] at H
                        have c19b0 : decide (0 ≤ x4_1) = true := decide_eq_true c19
                        clear c19
                        by_cases c20 : x4_1 < 58
                        · rw [if_pos c20] at H
                          have c20b0 : decide (x4_1 < 58) = true := decide_eq_true c20
                          clear c20
                          by_cases c21 : x8_2 > ((rdOf ByteArray.empty tabG0 x4_1).size : Int)
                          · rw [if_pos c21] at H
                            have c21b0 : decide (((rdOf ByteArray.empty tabG0 x4_1).size : Int) < x8_2) = true := decide_eq_true c21
                            clear c21
                            have H' := Aside0.mk H
                            clear H
                            have p104 : 0 ≤ (x4_1 : Int) := of_decide_eq_true (by first | (with_reducible assumption) | assumption)
                            have q104 : x4_1 < (58 : Int) := of_decide_eq_true (by first | (with_reducible assumption) | assumption)
                            obtain ⟨ad104, e104, hx104_0⟩ := Kd.at_string HRG0.out x4_1 p104 q104
                            obtain rfl : (⟨0, 0, none⟩ : Addr) = ad104 := (by injection e104)
                            (first | simp only [add_plain] at hx104_0 | simp only [add_at] at hx104_0 | simp only [Addr.add, Nat.zero_add] at hx104_0 | skip)
                            replace hx104_0 := (HB.out.cell (World.block_lt_of_cell? w _ hx104_0)).trans hx104_0
                            replace p104 := eq_true p104
                            replace q104 := eq_true q104
                            go_wp2
                            repeat (go_quiet (fail); try go_wp2)
                            go_roundg k2
                            case measure => have := HK1.out; have := HK2.out; omega
                            case rel => exact ⟨(x10_1), (ji16), (wrap64 (x10_1 + 1)), (by first | rfl | (simp; done) | (simp [*]; done)), (by first | rfl | (simp; done) | (simp only [← hji16] <;> (first | rfl | simp)) | (simp [*]; done)), (by first | rfl | (simp; done) | (simp [*]; done)), H', ⟨by have := HK1.out; have := HK2.out; omega⟩, ⟨by repeat (first | (with_reducible first | exact HB.out | apply below_alloc | apply pw_below_drewN | apply below_drew1) | exact HB.out)⟩⟩
                          · rw [if_neg c21] at H
                            have c21b0 : decide (((rdOf ByteArray.empty tabG0 x4_1).size : Int) < x8_2) = false := decide_eq_false c21
                            clear c21
                            have H' := Aside0.mk H
                            clear H
                            have p104 : 0 ≤ (x4_1 : Int) := of_decide_eq_true (by first | (with_reducible assumption) | assumption)
                            have q104 : x4_1 < (58 : Int) := of_decide_eq_true (by first | (with_reducible assumption) | assumption)
                            obtain ⟨ad104, e104, hx104_0⟩ := Kd.at_string HRG0.out x4_1 p104 q104
                            obtain rfl : (⟨0, 0, none⟩ : Addr) = ad104 := (by injection e104)
                            (first | simp only [add_plain] at hx104_0 | simp only [add_at] at hx104_0 | simp only [Addr.add, Nat.zero_add] at hx104_0 | skip)
                            replace hx104_0 := (HB.out.cell (World.block_lt_of_cell? w _ hx104_0)).trans hx104_0
                            replace p104 := eq_true p104
                            replace q104 := eq_true q104
                            go_wp2
                            repeat (go_quiet (fail); try go_wp2)
                            go_roundg k2
                            case measure => have := HK1.out; have := HK2.out; omega
                            case rel => exact ⟨(x4_1), (ji16), (wrap64 (x10_1 + 1)), (by first | rfl | (simp; done) | (simp [*]; done)), (by first | rfl | (simp; done) | (simp only [← hji16] <;> (first | rfl | simp)) | (simp [*]; done)), (by first | rfl | (simp; done) | (simp [*]; done)), H', ⟨by have := HK1.out; have := HK2.out; omega⟩, ⟨by repeat (first | (with_reducible first | exact HB.out | apply below_alloc | apply pw_below_drewN | apply below_drew1) | exact HB.out)⟩⟩
                        · rw [if_neg c20] at H
                          exact absurd H (by simp)
                      · rw [if_neg c19] at H
                        exact absurd H (by simp)
                  · rw [if_neg c17] at H
                    have c17b0 : (x8_2 == ((rdOf ByteArray.empty tabG0 x10_1).size : Int)) = false := beq_eq_false_iff_ne.mpr c17
                    have c17b1 : (x8_2 != ((rdOf ByteArray.empty tabG0 x10_1).size : Int)) = true := bne_iff_ne.mpr c17
                    have H' := Aside0.mk H
                    clear H
                    go_wp2
                    repeat (go_quiet (fail); try go_wp2)
                    go_roundg k2
                    case measure => have := HK1.out; have := HK2.out; omega
                    case rel => exact ⟨(x4_1), (ji16), (wrap64 (x10_1 + 1)), (by first | rfl | (simp; done) | (simp [*]; done)), (by first | rfl | (simp; done) | (simp only [← hji16] <;> (first | rfl | simp)) | (simp [*]; done)), (by first | rfl | (simp; done) | (simp [*]; done)), H', ⟨by have := HK1.out; have := HK2.out; omega⟩, ⟨by repeat (first | (with_reducible first | exact HB.out | apply below_alloc | apply pw_below_drewN | apply below_drew1) | exact HB.out)⟩⟩
              · rw [if_neg c4] at H
                have c4b0 : decide (x8_2 < (a0.size : Int)) = false := decide_eq_false c4
                clear c4
                obtain ⟨ji22, hji22⟩ : ∃ j_ : Int, (mx x5_1 x8_2) = j_ := ⟨_, rfl⟩
                replace H : (if x8_2 = ((rdOf ByteArray.empty tabG0 x10_1).size : Int) then (if x4_1 < 0 then (tree_longest.l0 k2 a0 x10_1 ji22 (wrap64 (x10_1 + 1))) else (if 0 ≤ x4_1 then (if x4_1 < 58 then (if x8_2 > ((rdOf ByteArray.empty tabG0 x4_1).size : Int) then (tree_longest.l0 k2 a0 x10_1 ji22 (wrap64 (x10_1 + 1))) else (tree_longest.l0 k2 a0 x4_1 ji22 (wrap64 (x10_1 + 1)))) else (none)) else (none))) else (tree_longest.l0 k2 a0 x4_1 ji22 (wrap64 (x10_1 + 1)))) = some (r1, r2) := by first | (rw [hji22] at H; exact H) | (simp only [hji22] at H ⊢; exact H)
                have hji22_ : (if x5_1 < x8_2 then x8_2 else x5_1) = ji22 := hji22
                by_cases c23 : x8_2 = ((rdOf ByteArray.empty tabG0 x10_1).size : Int)
                · rw [if_pos c23] at H
                  have c23b0 : (x8_2 == ((rdOf ByteArray.empty tabG0 x10_1).size : Int)) = true := beq_iff_eq.mpr c23
                  have c23b1 : (x8_2 != ((rdOf ByteArray.empty tabG0 x10_1).size : Int)) = false := bne_eq_false_iff_eq.mpr c23
                  clear c23
                  by_cases c24 : x4_1 < 0
                  · rw [if_pos c24] at H
                    have c24b0 : decide (x4_1 < 0) = true := decide_eq_true c24
                    clear c24
                    have H' := Aside0.mk H
                    clear H
                    go_wp2
                    repeat (go_quiet (fail); try go_wp2)
                    go_roundg k2
                    case measure => have := HK1.out; have := HK2.out; omega
                    case rel => exact ⟨(x10_1), (ji22), (wrap64 (x10_1 + 1)), (by first | rfl | (simp; done) | (simp [*]; done)), (by first | rfl | (simp; done) | (simp only [← hji22] <;> (first | rfl | simp)) | (simp [*]; done)), (by first | rfl | (simp; done) | (simp [*]; done)), H', ⟨by have := HK1.out; have := HK2.out; omega⟩, ⟨by repeat (first | (with_reducible first | exact HB.out | apply below_alloc | apply pw_below_drewN | apply below_drew1) | exact HB.out)⟩⟩
                  · rw [if_neg c24] at H
                    have c24b0 : decide (x4_1 < 0) = false := decide_eq_false c24
                    clear c24
                    by_cases c25 : 0 ≤ x4_1
                    · rw [if_pos c25] at H
                      have c25b0 : decide (0 ≤ x4_1) = true := decide_eq_true c25
                      clear c25
                      by_cases c26 : x4_1 < 58
                      · rw [if_pos c26] at H
                        have c26b0 : decide (x4_1 < 58) = true := decide_eq_true c26
                        clear c26
                        by_cases c27 : x8_2 > ((rdOf ByteArray.empty tabG0 x4_1).size : Int)
                        · rw [if_pos c27] at H
                          have c27b0 : decide (((rdOf ByteArray.empty tabG0 x4_1).size : Int) < x8_2) = true := decide_eq_true c27
                          clear c27
                          have H' := Aside0.mk H
                          clear H
                          have p105 : 0 ≤ (x4_1 : Int) := of_decide_eq_true (by first | (with_reducible assumption) | assumption)
                          have q105 : x4_1 < (58 : Int) := of_decide_eq_true (by first | (with_reducible assumption) | assumption)
                          obtain ⟨ad105, e105, hx105_0⟩ := Kd.at_string HRG0.out x4_1 p105 q105
                          obtain rfl : (⟨0, 0, none⟩ : Addr) = ad105 := (by injection e105)
                          (first | simp only [add_plain] at hx105_0 | simp only [add_at] at hx105_0 | simp only [Addr.add, Nat.zero_add] at hx105_0 | skip)
                          replace hx105_0 := (HB.out.cell (World.block_lt_of_cell? w _ hx105_0)).trans hx105_0
                          replace p105 := eq_true p105
                          replace q105 := eq_true q105
                          go_wp2
                          repeat (go_quiet (fail); try go_wp2)
                          go_roundg k2
                          case measure => have := HK1.out; have := HK2.out; omega
                          case rel => exact ⟨(x10_1), (ji22), (wrap64 (x10_1 + 1)), (by first | rfl | (simp; done) | (simp [*]; done)), (by first | rfl | (simp; done) | (simp only [← hji22] <;> (first | rfl | simp)) | (simp [*]; done)), (by first | rfl | (simp; done) | (simp [*]; done)), H', ⟨by have := HK1.out; have := HK2.out; omega⟩, ⟨by repeat (first | (with_reducible first | exact HB.out | apply below_alloc | apply pw_below_drewN | apply below_drew1) | exact HB.out)⟩⟩
                        · rw [if_neg c27] at H
                          have c27b0 : decide (((rdOf ByteArray.empty tabG0 x4_1).size : Int) < x8_2) = false := decide_eq_false c27
                          clear c27
                          have H' := Aside0.mk H
                          clear H
                          have p105 : 0 ≤ (x4_1 : Int) := of_decide_eq_true (by first | (with_reducible assumption) | assumption)
                          have q105 : x4_1 < (58 : Int) := of_decide_eq_true (by first | (with_reducible assumption) | assumption)
                          obtain ⟨ad105, e105, hx105_0⟩ := Kd.at_string HRG0.out x4_1 p105 q105
                          obtain rfl : (⟨0, 0, none⟩ : Addr) = ad105 := (by injection e105)
                          (first | simp only [add_plain] at hx105_0 | simp only [add_at] at hx105_0 | simp only [Addr.add, Nat.zero_add] at hx105_0 | skip)
                          replace hx105_0 := (HB.out.cell (World.block_lt_of_cell? w _ hx105_0)).trans hx105_0
                          replace p105 := eq_true p105
                          replace q105 := eq_true q105
                          go_wp2
                          repeat (go_quiet (fail); try go_wp2)
                          go_roundg k2
                          case measure => have := HK1.out; have := HK2.out; omega
                          case rel => exact ⟨(x4_1), (ji22), (wrap64 (x10_1 + 1)), (by first | rfl | (simp; done) | (simp [*]; done)), (by first | rfl | (simp; done) | (simp only [← hji22] <;> (first | rfl | simp)) | (simp [*]; done)), (by first | rfl | (simp; done) | (simp [*]; done)), H', ⟨by have := HK1.out; have := HK2.out; omega⟩, ⟨by repeat (first | (with_reducible first | exact HB.out | apply below_alloc | apply pw_below_drewN | apply below_drew1) | exact HB.out)⟩⟩
                      · rw [if_neg c26] at H
                        exact absurd H (by simp)
                    · rw [if_neg c25] at H
                      exact absurd H (by simp)
                · rw [if_neg c23] at H
                  have c23b0 : (x8_2 == ((rdOf ByteArray.empty tabG0 x10_1).size : Int)) = false := beq_eq_false_iff_ne.mpr c23
                  have c23b1 : (x8_2 != ((rdOf ByteArray.empty tabG0 x10_1).size : Int)) = true := bne_iff_ne.mpr c23
                  have H' := Aside0.mk H
                  clear H
                  go_wp2
                  repeat (go_quiet (fail); try go_wp2)
                  go_roundg k2
                  case measure => have := HK1.out; have := HK2.out; omega
                  case rel => exact ⟨(x4_1), (ji22), (wrap64 (x10_1 + 1)), (by first | rfl | (simp; done) | (simp [*]; done)), (by first | rfl | (simp; done) | (simp only [← hji22] <;> (first | rfl | simp)) | (simp [*]; done)), (by first | rfl | (simp; done) | (simp [*]; done)), H', ⟨by have := HK1.out; have := HK2.out; omega⟩, ⟨by repeat (first | (with_reducible first | exact HB.out | apply below_alloc | apply pw_below_drewN | apply below_drew1) | exact HB.out)⟩⟩
        · rw [if_neg c3] at H
          exact absurd H (by simp)
      · rw [if_neg c2] at H
        have c2b0 : decide (x10_1 < 58) = false := decide_eq_false c2
        clear c2
        by_cases c28 : x4_1 ≥ 0
        · rw [if_pos c28] at H
          have c28b0 : decide (0 ≤ x4_1) = true := decide_eq_true c28
          clear c28
          by_cases c29 : 0 ≤ x4_1
          · rw [if_pos c29] at H
            have c29b0 : decide (0 ≤ x4_1) = true := decide_eq_true c29
            clear c29
            by_cases c30 : x4_1 < 58
            · rw [if_pos c30] at H
              have c30b0 : decide (x4_1 < 58) = true := decide_eq_true c30
              clear c30
              by_cases c31 : ((rdOf ByteArray.empty tabG0 x4_1).size : Int) < x5_1
              · rw [if_pos c31] at H
                have c31b0 : decide (((rdOf ByteArray.empty tabG0 x4_1).size : Int) < x5_1) = true := decide_eq_true c31
                clear c31
                simp only [Option.some.injEq, Prod.mk.injEq] at H
                obtain ⟨rfl, rfl⟩ := H
                have p101 : 0 ≤ (x4_1 : Int) := of_decide_eq_true (by first | (with_reducible assumption) | assumption)
                have q101 : x4_1 < (58 : Int) := of_decide_eq_true (by first | (with_reducible assumption) | assumption)
                obtain ⟨ad101, e101, hx101_0⟩ := Kd.at_string HRG0.out x4_1 p101 q101
                obtain rfl : (⟨0, 0, none⟩ : Addr) = ad101 := (by injection e101)
                (first | simp only [add_plain] at hx101_0 | simp only [add_at] at hx101_0 | simp only [Addr.add, Nat.zero_add] at hx101_0 | skip)
                replace hx101_0 := (HB.out.cell (World.block_lt_of_cell? w _ hx101_0)).trans hx101_0
                replace p101 := eq_true p101
                replace q101 := eq_true q101
                go_wp2
                repeat (go_quiet (fail); try go_wp2)
                go_ret2
                exact ⟨by first | rfl | (simp [errW_none, errW_some] <;> rfl) | (simp [*, errW_none, errW_some] <;> rfl), by repeat (first | (with_reducible first | exact HB.out | apply below_alloc | apply pw_below_drewN | apply below_drew1) | exact HB.out)⟩
              · rw [if_neg c31] at H
                have c31b0 : decide (((rdOf ByteArray.empty tabG0 x4_1).size : Int) < x5_1) = false := decide_eq_false c31
                clear c31
                simp only [Option.some.injEq, Prod.mk.injEq] at H
                obtain ⟨rfl, rfl⟩ := H
                have p101 : 0 ≤ (x4_1 : Int) := of_decide_eq_true (by first | (with_reducible assumption) | assumption)
                have q101 : x4_1 < (58 : Int) := of_decide_eq_true (by first | (with_reducible assumption) | assumption)
                obtain ⟨ad101, e101, hx101_0⟩ := Kd.at_string HRG0.out x4_1 p101 q101
                obtain rfl : (⟨0, 0, none⟩ : Addr) = ad101 := (by injection e101)
                (first | simp only [add_plain] at hx101_0 | simp only [add_at] at hx101_0 | simp only [Addr.add, Nat.zero_add] at hx101_0 | skip)
                replace hx101_0 := (HB.out.cell (World.block_lt_of_cell? w _ hx101_0)).trans hx101_0
                replace p101 := eq_true p101
                replace q101 := eq_true q101
                go_wp2
                repeat (go_quiet (fail); try go_wp2)
                go_ret2
                exact ⟨by first | rfl | (simp [errW_none, errW_some] <;> rfl) | (simp [*, errW_none, errW_some] <;> rfl), by repeat (first | (with_reducible first | exact HB.out | apply below_alloc | apply pw_below_drewN | apply below_drew1) | exact HB.out)⟩
            · rw [if_neg c30] at H
              exact absurd H (by simp)
          · rw [if_neg c29] at H
            exact absurd H (by simp)
        · rw [if_neg c28] at H
          have c28b0 : decide (0 ≤ x4_1) = false := decide_eq_false c28
          clear c28
          simp only [Option.some.injEq, Prod.mk.injEq] at H
          obtain ⟨rfl, rfl⟩ := H
          go_wp2
          repeat (go_quiet (fail); try go_wp2)
          go_ret2
          exact ⟨by first | rfl | (simp [errW_none, errW_some] <;> rfl) | (simp [*, errW_none, errW_some] <;> rfl), by repeat (first | (with_reducible first | exact HB.out | apply below_alloc | apply pw_below_drewN | apply below_drew1) | exact HB.out)⟩

end Go.Proofs.YtodldpdnhcafpaaDoor.F

-- A text of this session's own program (wip/myprint.sh over a changed print tool): functions and their walks
namespace Go.Proofs.YtodldpdnhcafpaaDoor.F
open Go.RowKit Go.Proofs.YtodldpdnhcafpaaDoorW.PrintWords Go.Proofs.YtodldpdnhcafpaaDoorW.PrintLast Go.Proofs.YtodldpdnhcafpaaDoorW.PrintMore
attribute [local go_sem] max2_int min2_int max_two min_two max_three min_three max_four min_four   -- for this text's walks alone
set_option linter.unusedVariables false
set_option linter.unusedSimpArgs false

/-! ### monikerref4_name: function 37 -/
def monikerref4_name.l0 : Nat → ByteArray → Int → Bool → Int → Option (Int × Bool)
  | 0, _, _, _, _ => none
  | k + 1, x0, x4, x5, x6 => if x6 < 58 then (if 0 ≤ x6 then (if (rdOf ByteArray.empty tabG1 x6).toList = x0.toList then (if ((rdOf ByteArray.empty tabG1 x6).size : Int) ≥ (x0.size : Int) then (if 0 ≤ (x0.size : Int) then (if (x0.size : Int) ≤ ((rdOf ByteArray.empty tabG1 x6).size : Int) then (if ((rdOf ByteArray.empty tabG1 x6).extract 0 ((x0.size : Int) : Int).toNat).toList = x0.toList then (monikerref4_name.l0 k x0 x6 true (wrap64 (x6 + 1))) else (monikerref4_name.l0 k x0 x6 x5 (wrap64 (x6 + 1)))) else (none)) else (none)) else (monikerref4_name.l0 k x0 x6 x5 (wrap64 (x6 + 1)))) else (if ((rdOf ByteArray.empty tabG1 x6).size : Int) ≥ (x0.size : Int) then (if 0 ≤ (x0.size : Int) then (if (x0.size : Int) ≤ ((rdOf ByteArray.empty tabG1 x6).size : Int) then (if ((rdOf ByteArray.empty tabG1 x6).extract 0 ((x0.size : Int) : Int).toNat).toList = x0.toList then (monikerref4_name.l0 k x0 x4 true (wrap64 (x6 + 1))) else (monikerref4_name.l0 k x0 x4 x5 (wrap64 (x6 + 1)))) else (none)) else (none)) else (monikerref4_name.l0 k x0 x4 x5 (wrap64 (x6 + 1))))) else (none)) else (some (x4, x5))
def monikerref4_name.f (k : Nat) (a0 : ByteArray) : Option (Int × Bool) := monikerref4_name.l0 k a0 (-1) false 0
set_option maxHeartbeats 8000000 in
set_option maxRecDepth 100000 in
theorem monikerref4_name.calls (k : Nat) (a0 : ByteArray) (r1 : Int) (r2 : Bool) (w : World) (h : monikerref4_name.f k a0 = some (r1, r2)) (hs_ : SG w) :
    Calls Tryd.prog 37 #[.string a0] w fun e w' => e = .returned (.tuple #[.int .i64 r1, .bool r2]) ∧ Drawn0 w w' := by
  have HRG0 := Aside0.mk hs_.g0
  have HRG1 := Aside0.mk hs_.g1
  have HSG := Aside0.mk hs_
  clear hs_
  have H : (monikerref4_name.l0 k a0 (-1) false 0) = some (r1, r2) := h
  clear h
  have H' := Aside0.mk H
  clear H
  go_enter Tryd.func37, Tryd.ntmps37
  go_wp2
  go_loopg [4, 5, 6] k (fun kq v4 v5 v6 w' => ∃ (x4_1 : Int) (x5_1 : Bool) (x6_1 : Int), v4 = .int .i64 x4_1 ∧ v5 = .bool x5_1 ∧ v6 = .int .i64 x6_1 ∧ Aside0 (monikerref4_name.l0 kq a0 x4_1 x5_1 x6_1 = some (r1, r2)) ∧ Aside0 (kq ≤ k) ∧ Drawn0 w w')
  case atStart => exact ⟨((-1)), (false), (0), (by first | rfl | (simp; done) | (simp [*]; done)), (by first | rfl | (simp; done) | (simp [*]; done)), (by first | rfl | (simp; done) | (simp [*]; done)), H', ⟨Nat.le_refl _⟩, by repeat (first | exact Drawn0.refl _ | apply Drawn0.step)⟩
  case round =>
    clear H'
    obtain ⟨x4_1, x5_1, x6_1, rfl, rfl, rfl, HA, HK1, ⟨m1, rfl⟩⟩ := hrel
    cases gk with
    | zero => exact absurd HA.out (by simp [monikerref4_name.l0])
    | succ k1 =>
      have H := HA.out
      clear HA
      simp only [monikerref4_name.l0] at H
      by_cases c2 : x6_1 < 58
      · rw [if_pos c2] at H
        have c2b0 : decide (x6_1 < 58) = true := decide_eq_true c2
        clear c2
        by_cases c3 : 0 ≤ x6_1
        · rw [if_pos c3] at H
          have c3b0 : decide (0 ≤ x6_1) = true := decide_eq_true c3
          clear c3
          by_cases c4 : (rdOf ByteArray.empty tabG1 x6_1).toList = a0.toList
          · rw [if_pos c4] at H
            have c4b0 : ((rdOf ByteArray.empty tabG1 x6_1).toList == a0.toList) = true := beq_iff_eq.mpr c4
            have c4b1 : ((rdOf ByteArray.empty tabG1 x6_1).toList != a0.toList) = false := bne_eq_false_iff_eq.mpr c4
            clear c4
            by_cases c5 : ((rdOf ByteArray.empty tabG1 x6_1).size : Int) ≥ (a0.size : Int)
            · rw [if_pos c5] at H
              have c5b0 : decide ((a0.size : Int) ≤ ((rdOf ByteArray.empty tabG1 x6_1).size : Int)) = true := decide_eq_true c5
              have c5b1 : decide (a0.size ≤ (rdOf ByteArray.empty tabG1 x6_1).size) = true := decide_eq_true (Int.ofNat_le.mp c5)
              clear c5
              by_cases c6 : 0 ≤ (a0.size : Int)
              · rw [if_pos c6] at H
                have c6b0 := eq_true c6
                have c6b1 : decide (0 ≤ (a0.size : Int)) = true := decide_eq_true c6
                clear c6
                by_cases c7 : (a0.size : Int) ≤ ((rdOf ByteArray.empty tabG1 x6_1).size : Int)
                · rw [if_pos c7] at H
                  have c7b0 := eq_true c7
                  have c7b1 : decide ((a0.size : Int) ≤ ((rdOf ByteArray.empty tabG1 x6_1).size : Int)) = true := decide_eq_true c7
                  clear c7
                  by_cases c8 : ((rdOf ByteArray.empty tabG1 x6_1).extract 0 ((a0.size : Int) : Int).toNat).toList = a0.toList
                  · rw [if_pos c8] at H
                    have c8b0 : (((rdOf ByteArray.empty tabG1 x6_1).extract 0 ((a0.size : Int) : Int).toNat).toList == a0.toList) = true := beq_iff_eq.mpr c8
                    try (have c8b0z := c8b0; simp only [Int.toNat_natCast] at c8b0z)
                    have c8b1 : (((rdOf ByteArray.empty tabG1 x6_1).extract 0 ((a0.size : Int) : Int).toNat).toList != a0.toList) = false := bne_eq_false_iff_eq.mpr c8
                    try (have c8b1z := c8b1; simp only [Int.toNat_natCast] at c8b1z)
                    clear c8
                    have H' := Aside0.mk H
                    clear H
                    have p109 : 0 ≤ (x6_1 : Int) := of_decide_eq_true (by first | (with_reducible assumption) | assumption)
                    have q109 : x6_1 < (58 : Int) := of_decide_eq_true (by first | (with_reducible assumption) | assumption)
                    obtain ⟨ad109, e109, hx109_0⟩ := Kd.at_string HRG1.out x6_1 p109 q109
                    obtain rfl : (⟨1, 0, none⟩ : Addr) = ad109 := (by injection e109)
                    (first | simp only [add_plain] at hx109_0 | simp only [add_at] at hx109_0 | simp only [Addr.add, Nat.zero_add] at hx109_0 | skip)
                    replace p109 := eq_true p109
                    replace q109 := eq_true q109
                    have p110 : 0 ≤ (x6_1 : Int) := of_decide_eq_true (by first | (with_reducible assumption) | assumption)
                    have q110 : x6_1 < (58 : Int) := of_decide_eq_true (by first | (with_reducible assumption) | assumption)
                    obtain ⟨ad110, e110, hx110_0⟩ := Kd.at_string HRG1.out x6_1 p110 q110
                    obtain rfl : (⟨1, 0, none⟩ : Addr) = ad110 := (by injection e110)
                    (first | simp only [add_plain] at hx110_0 | simp only [add_at] at hx110_0 | simp only [Addr.add, Nat.zero_add] at hx110_0 | skip)
                    replace p110 := eq_true p110
                    replace q110 := eq_true q110
                    have p111 : 0 ≤ (x6_1 : Int) := of_decide_eq_true (by first | (with_reducible assumption) | assumption)
                    have q111 : x6_1 < (58 : Int) := of_decide_eq_true (by first | (with_reducible assumption) | assumption)
                    obtain ⟨ad111, e111, hx111_0⟩ := Kd.at_string HRG1.out x6_1 p111 q111
                    obtain rfl : (⟨1, 0, none⟩ : Addr) = ad111 := (by injection e111)
                    (first | simp only [add_plain] at hx111_0 | simp only [add_at] at hx111_0 | simp only [Addr.add, Nat.zero_add] at hx111_0 | skip)
                    replace p111 := eq_true p111
                    replace q111 := eq_true q111
                    go_wp2
                    go_roundg k1
                    case measure => have := HK1.out; omega
                    case rel => exact ⟨(x6_1), (true), (wrap64 (x6_1 + 1)), (by first | rfl | (simp; done) | (simp [*]; done)), (by first | rfl | (simp; done) | (simp [*]; done)), (by first | rfl | (simp; done) | (simp [*]; done)), H', ⟨by have := HK1.out; omega⟩, by repeat (first | exact Drawn0.refl _ | apply Drawn0.step)⟩
                  · rw [if_neg c8] at H
                    have c8b0 : (((rdOf ByteArray.empty tabG1 x6_1).extract 0 ((a0.size : Int) : Int).toNat).toList == a0.toList) = false := beq_eq_false_iff_ne.mpr c8
                    try (have c8b0z := c8b0; simp only [Int.toNat_natCast] at c8b0z)
                    have c8b1 : (((rdOf ByteArray.empty tabG1 x6_1).extract 0 ((a0.size : Int) : Int).toNat).toList != a0.toList) = true := bne_iff_ne.mpr c8
                    try (have c8b1z := c8b1; simp only [Int.toNat_natCast] at c8b1z)
                    have H' := Aside0.mk H
                    clear H
                    have p109 : 0 ≤ (x6_1 : Int) := of_decide_eq_true (by first | (with_reducible assumption) | assumption)
                    have q109 : x6_1 < (58 : Int) := of_decide_eq_true (by first | (with_reducible assumption) | assumption)
                    obtain ⟨ad109, e109, hx109_0⟩ := Kd.at_string HRG1.out x6_1 p109 q109
                    obtain rfl : (⟨1, 0, none⟩ : Addr) = ad109 := (by injection e109)
                    (first | simp only [add_plain] at hx109_0 | simp only [add_at] at hx109_0 | simp only [Addr.add, Nat.zero_add] at hx109_0 | skip)
                    replace p109 := eq_true p109
                    replace q109 := eq_true q109
                    have p110 : 0 ≤ (x6_1 : Int) := of_decide_eq_true (by first | (with_reducible assumption) | assumption)
                    have q110 : x6_1 < (58 : Int) := of_decide_eq_true (by first | (with_reducible assumption) | assumption)
                    obtain ⟨ad110, e110, hx110_0⟩ := Kd.at_string HRG1.out x6_1 p110 q110
                    obtain rfl : (⟨1, 0, none⟩ : Addr) = ad110 := (by injection e110)
                    (first | simp only [add_plain] at hx110_0 | simp only [add_at] at hx110_0 | simp only [Addr.add, Nat.zero_add] at hx110_0 | skip)
                    replace p110 := eq_true p110
                    replace q110 := eq_true q110
                    have p111 : 0 ≤ (x6_1 : Int) := of_decide_eq_true (by first | (with_reducible assumption) | assumption)
                    have q111 : x6_1 < (58 : Int) := of_decide_eq_true (by first | (with_reducible assumption) | assumption)
                    obtain ⟨ad111, e111, hx111_0⟩ := Kd.at_string HRG1.out x6_1 p111 q111
                    obtain rfl : (⟨1, 0, none⟩ : Addr) = ad111 := (by injection e111)
                    (first | simp only [add_plain] at hx111_0 | simp only [add_at] at hx111_0 | simp only [Addr.add, Nat.zero_add] at hx111_0 | skip)
                    replace p111 := eq_true p111
                    replace q111 := eq_true q111
                    go_wp2
                    go_roundg k1
                    case measure => have := HK1.out; omega
                    case rel => exact ⟨(x6_1), (x5_1), (wrap64 (x6_1 + 1)), (by first | rfl | (simp; done) | (simp [*]; done)), (by first | rfl | (simp; done) | (simp [*]; done)), (by first | rfl | (simp; done) | (simp [*]; done)), H', ⟨by have := HK1.out; omega⟩, by repeat (first | exact Drawn0.refl _ | apply Drawn0.step)⟩
                · rw [if_neg c7] at H
                  exact absurd H (by simp)
              · rw [if_neg c6] at H
                exact absurd H (by simp)
            · rw [if_neg c5] at H
              have c5b0 : decide ((a0.size : Int) ≤ ((rdOf ByteArray.empty tabG1 x6_1).size : Int)) = false := decide_eq_false c5
              have c5b1 : decide (a0.size ≤ (rdOf ByteArray.empty tabG1 x6_1).size) = false := decide_eq_false (fun h => c5 (Int.ofNat_le.mpr h))
              clear c5
              have H' := Aside0.mk H
              clear H
              have p109 : 0 ≤ (x6_1 : Int) := of_decide_eq_true (by first | (with_reducible assumption) | assumption)
              have q109 : x6_1 < (58 : Int) := of_decide_eq_true (by first | (with_reducible assumption) | assumption)
              obtain ⟨ad109, e109, hx109_0⟩ := Kd.at_string HRG1.out x6_1 p109 q109
              obtain rfl : (⟨1, 0, none⟩ : Addr) = ad109 := (by injection e109)
              (first | simp only [add_plain] at hx109_0 | simp only [add_at] at hx109_0 | simp only [Addr.add, Nat.zero_add] at hx109_0 | skip)
              replace p109 := eq_true p109
              replace q109 := eq_true q109
              have p110 : 0 ≤ (x6_1 : Int) := of_decide_eq_true (by first | (with_reducible assumption) | assumption)
              have q110 : x6_1 < (58 : Int) := of_decide_eq_true (by first | (with_reducible assumption) | assumption)
              obtain ⟨ad110, e110, hx110_0⟩ := Kd.at_string HRG1.out x6_1 p110 q110
              obtain rfl : (⟨1, 0, none⟩ : Addr) = ad110 := (by injection e110)
              (first | simp only [add_plain] at hx110_0 | simp only [add_at] at hx110_0 | simp only [Addr.add, Nat.zero_add] at hx110_0 | skip)
              replace p110 := eq_true p110
              replace q110 := eq_true q110
              go_wp2
              go_roundg k1
              case measure => have := HK1.out; omega
              case rel => exact ⟨(x6_1), (x5_1), (wrap64 (x6_1 + 1)), (by first | rfl | (simp; done) | (simp [*]; done)), (by first | rfl | (simp; done) | (simp [*]; done)), (by first | rfl | (simp; done) | (simp [*]; done)), H', ⟨by have := HK1.out; omega⟩, by repeat (first | exact Drawn0.refl _ | apply Drawn0.step)⟩
          · rw [if_neg c4] at H
            have c4b0 : ((rdOf ByteArray.empty tabG1 x6_1).toList == a0.toList) = false := beq_eq_false_iff_ne.mpr c4
            have c4b1 : ((rdOf ByteArray.empty tabG1 x6_1).toList != a0.toList) = true := bne_iff_ne.mpr c4
            by_cases c9 : ((rdOf ByteArray.empty tabG1 x6_1).size : Int) ≥ (a0.size : Int)
            · rw [if_pos c9] at H
              have c9b0 : decide ((a0.size : Int) ≤ ((rdOf ByteArray.empty tabG1 x6_1).size : Int)) = true := decide_eq_true c9
              have c9b1 : decide (a0.size ≤ (rdOf ByteArray.empty tabG1 x6_1).size) = true := decide_eq_true (Int.ofNat_le.mp c9)
              clear c9
              by_cases c10 : 0 ≤ (a0.size : Int)
              · rw [if_pos c10] at H
                have c10b0 := eq_true c10
                have c10b1 : decide (0 ≤ (a0.size : Int)) = true := decide_eq_true c10
                clear c10
                by_cases c11 : (a0.size : Int) ≤ ((rdOf ByteArray.empty tabG1 x6_1).size : Int)
                · rw [if_pos c11] at H
                  have c11b0 := eq_true c11
                  have c11b1 : decide ((a0.size : Int) ≤ ((rdOf ByteArray.empty tabG1 x6_1).size : Int)) = true := decide_eq_true c11
                  clear c11
                  by_cases c12 : ((rdOf ByteArray.empty tabG1 x6_1).extract 0 ((a0.size : Int) : Int).toNat).toList = a0.toList
                  · rw [if_pos c12] at H
                    have c12b0 : (((rdOf ByteArray.empty tabG1 x6_1).extract 0 ((a0.size : Int) : Int).toNat).toList == a0.toList) = true := beq_iff_eq.mpr c12
                    try (have c12b0z := c12b0; simp only [Int.toNat_natCast] at c12b0z)
                    have c12b1 : (((rdOf ByteArray.empty tabG1 x6_1).extract 0 ((a0.size : Int) : Int).toNat).toList != a0.toList) = false := bne_eq_false_iff_eq.mpr c12
                    try (have c12b1z := c12b1; simp only [Int.toNat_natCast] at c12b1z)
                    clear c12
                    have H' := Aside0.mk H
                    clear H
                    have p109 : 0 ≤ (x6_1 : Int) := of_decide_eq_true (by first | (with_reducible assumption) | assumption)
                    have q109 : x6_1 < (58 : Int) := of_decide_eq_true (by first | (with_reducible assumption) | assumption)
                    obtain ⟨ad109, e109, hx109_0⟩ := Kd.at_string HRG1.out x6_1 p109 q109
                    obtain rfl : (⟨1, 0, none⟩ : Addr) = ad109 := (by injection e109)
                    (first | simp only [add_plain] at hx109_0 | simp only [add_at] at hx109_0 | simp only [Addr.add, Nat.zero_add] at hx109_0 | skip)
                    replace p109 := eq_true p109
                    replace q109 := eq_true q109
                    have p112 : 0 ≤ (x6_1 : Int) := of_decide_eq_true (by first | (with_reducible assumption) | assumption)
                    have q112 : x6_1 < (58 : Int) := of_decide_eq_true (by first | (with_reducible assumption) | assumption)
                    obtain ⟨ad112, e112, hx112_0⟩ := Kd.at_string HRG1.out x6_1 p112 q112
                    obtain rfl : (⟨1, 0, none⟩ : Addr) = ad112 := (by injection e112)
                    (first | simp only [add_plain] at hx112_0 | simp only [add_at] at hx112_0 | simp only [Addr.add, Nat.zero_add] at hx112_0 | skip)
                    replace p112 := eq_true p112
                    replace q112 := eq_true q112
                    have p113 : 0 ≤ (x6_1 : Int) := of_decide_eq_true (by first | (with_reducible assumption) | assumption)
                    have q113 : x6_1 < (58 : Int) := of_decide_eq_true (by first | (with_reducible assumption) | assumption)
                    obtain ⟨ad113, e113, hx113_0⟩ := Kd.at_string HRG1.out x6_1 p113 q113
                    obtain rfl : (⟨1, 0, none⟩ : Addr) = ad113 := (by injection e113)
                    (first | simp only [add_plain] at hx113_0 | simp only [add_at] at hx113_0 | simp only [Addr.add, Nat.zero_add] at hx113_0 | skip)
                    replace p113 := eq_true p113
                    replace q113 := eq_true q113
                    go_wp2
                    go_roundg k1
                    case measure => have := HK1.out; omega
                    case rel => exact ⟨(x4_1), (true), (wrap64 (x6_1 + 1)), (by first | rfl | (simp; done) | (simp [*]; done)), (by first | rfl | (simp; done) | (simp [*]; done)), (by first | rfl | (simp; done) | (simp [*]; done)), H', ⟨by have := HK1.out; omega⟩, by repeat (first | exact Drawn0.refl _ | apply Drawn0.step)⟩
                  · rw [if_neg c12] at H
                    have c12b0 : (((rdOf ByteArray.empty tabG1 x6_1).extract 0 ((a0.size : Int) : Int).toNat).toList == a0.toList) = false := beq_eq_false_iff_ne.mpr c12
                    try (have c12b0z := c12b0; simp only [Int.toNat_natCast] at c12b0z)
                    have c12b1 : (((rdOf ByteArray.empty tabG1 x6_1).extract 0 ((a0.size : Int) : Int).toNat).toList != a0.toList) = true := bne_iff_ne.mpr c12
                    try (have c12b1z := c12b1; simp only [Int.toNat_natCast] at c12b1z)
                    have H' := Aside0.mk H
                    clear H
                    have p109 : 0 ≤ (x6_1 : Int) := of_decide_eq_true (by first | (with_reducible assumption) | assumption)
                    have q109 : x6_1 < (58 : Int) := of_decide_eq_true (by first | (with_reducible assumption) | assumption)
                    obtain ⟨ad109, e109, hx109_0⟩ := Kd.at_string HRG1.out x6_1 p109 q109
                    obtain rfl : (⟨1, 0, none⟩ : Addr) = ad109 := (by injection e109)
                    (first | simp only [add_plain] at hx109_0 | simp only [add_at] at hx109_0 | simp only [Addr.add, Nat.zero_add] at hx109_0 | skip)
                    replace p109 := eq_true p109
                    replace q109 := eq_true q109
                    have p112 : 0 ≤ (x6_1 : Int) := of_decide_eq_true (by first | (with_reducible assumption) | assumption)
                    have q112 : x6_1 < (58 : Int) := of_decide_eq_true (by first | (with_reducible assumption) | assumption)
                    obtain ⟨ad112, e112, hx112_0⟩ := Kd.at_string HRG1.out x6_1 p112 q112
                    obtain rfl : (⟨1, 0, none⟩ : Addr) = ad112 := (by injection e112)
                    (first | simp only [add_plain] at hx112_0 | simp only [add_at] at hx112_0 | simp only [Addr.add, Nat.zero_add] at hx112_0 | skip)
                    replace p112 := eq_true p112
                    replace q112 := eq_true q112
                    have p113 : 0 ≤ (x6_1 : Int) := of_decide_eq_true (by first | (with_reducible assumption) | assumption)
                    have q113 : x6_1 < (58 : Int) := of_decide_eq_true (by first | (with_reducible assumption) | assumption)
                    obtain ⟨ad113, e113, hx113_0⟩ := Kd.at_string HRG1.out x6_1 p113 q113
                    obtain rfl : (⟨1, 0, none⟩ : Addr) = ad113 := (by injection e113)
                    (first | simp only [add_plain] at hx113_0 | simp only [add_at] at hx113_0 | simp only [Addr.add, Nat.zero_add] at hx113_0 | skip)
                    replace p113 := eq_true p113
                    replace q113 := eq_true q113
                    go_wp2
                    go_roundg k1
                    case measure => have := HK1.out; omega
                    case rel => exact ⟨(x4_1), (x5_1), (wrap64 (x6_1 + 1)), (by first | rfl | (simp; done) | (simp [*]; done)), (by first | rfl | (simp; done) | (simp [*]; done)), (by first | rfl | (simp; done) | (simp [*]; done)), H', ⟨by have := HK1.out; omega⟩, by repeat (first | exact Drawn0.refl _ | apply Drawn0.step)⟩
                · rw [if_neg c11] at H
                  exact absurd H (by simp)
              · rw [if_neg c10] at H
                exact absurd H (by simp)
            · rw [if_neg c9] at H
              have c9b0 : decide ((a0.size : Int) ≤ ((rdOf ByteArray.empty tabG1 x6_1).size : Int)) = false := decide_eq_false c9
              have c9b1 : decide (a0.size ≤ (rdOf ByteArray.empty tabG1 x6_1).size) = false := decide_eq_false (fun h => c9 (Int.ofNat_le.mpr h))
              clear c9
              have H' := Aside0.mk H
              clear H
              have p109 : 0 ≤ (x6_1 : Int) := of_decide_eq_true (by first | (with_reducible assumption) | assumption)
              have q109 : x6_1 < (58 : Int) := of_decide_eq_true (by first | (with_reducible assumption) | assumption)
              obtain ⟨ad109, e109, hx109_0⟩ := Kd.at_string HRG1.out x6_1 p109 q109
              obtain rfl : (⟨1, 0, none⟩ : Addr) = ad109 := (by injection e109)
              (first | simp only [add_plain] at hx109_0 | simp only [add_at] at hx109_0 | simp only [Addr.add, Nat.zero_add] at hx109_0 | skip)
              replace p109 := eq_true p109
              replace q109 := eq_true q109
              have p112 : 0 ≤ (x6_1 : Int) := of_decide_eq_true (by first | (with_reducible assumption) | assumption)
              have q112 : x6_1 < (58 : Int) := of_decide_eq_true (by first | (with_reducible assumption) | assumption)
              obtain ⟨ad112, e112, hx112_0⟩ := Kd.at_string HRG1.out x6_1 p112 q112
              obtain rfl : (⟨1, 0, none⟩ : Addr) = ad112 := (by injection e112)
              (first | simp only [add_plain] at hx112_0 | simp only [add_at] at hx112_0 | simp only [Addr.add, Nat.zero_add] at hx112_0 | skip)
              replace p112 := eq_true p112
              replace q112 := eq_true q112
              go_wp2
              go_roundg k1
              case measure => have := HK1.out; omega
              case rel => exact ⟨(x4_1), (x5_1), (wrap64 (x6_1 + 1)), (by first | rfl | (simp; done) | (simp [*]; done)), (by first | rfl | (simp; done) | (simp [*]; done)), (by first | rfl | (simp; done) | (simp [*]; done)), H', ⟨by have := HK1.out; omega⟩, by repeat (first | exact Drawn0.refl _ | apply Drawn0.step)⟩
        · rw [if_neg c3] at H
          exact absurd H (by simp)
      · rw [if_neg c2] at H
        have c2b0 : decide (x6_1 < 58) = false := decide_eq_false c2
        clear c2
        simp only [Option.some.injEq, Prod.mk.injEq] at H
        obtain ⟨rfl, rfl⟩ := H
        go_wp2
        go_ret2
        exact ⟨by first | rfl | (simp; done) | (simp [*]; done), by repeat (first | exact Drawn0.refl _ | apply Drawn0.step)⟩

end Go.Proofs.YtodldpdnhcafpaaDoor.F

-- The longest name that a text begins with: what 'longest' and the document's 'name' say
namespace Go.Proofs.YtodldpdnhcafpaaDoor.Q
open Go.RowKit Go.Proofs.YtodldpdnhcafpaaDoorW.PrintWords Go.Proofs.YtodldpdnhcafpaaDoorW.PrintLast Go.Proofs.YtodldpdnhcafpaaDoorW.PrintMore
open Go.Proofs.YtodldpdnhcafpaaDoor.F Classical
set_option linter.unusedSimpArgs false
set_option linter.unusedVariables false
theorem w64 {x : Int} (h0 : -9223372036854775808 ≤ x) (h1 : x ≤ 9223372036854775807) : wrap64 x = x := by unfold wrap64; omega
theorem bt_in (s : ByteArray) (i : Nat) (h : i < s.size) : bt s (i : Int) = ((s[i]'h).toNat : Int) := (bt_at s (i : Int) (by simpa using h)).symm
theorem toList_inj {x y : ByteArray} (h : x.toList = y.toList) : x = y := by
  rw [Lib.toList_data, Lib.toList_data] at h
  exact ByteArray.ext (Array.ext' h)
theorem toList_iff {x y : ByteArray} : x.toList = y.toList ↔ x = y := ⟨toList_inj, fun h => by rw [h]⟩
theorem ba_ext (x y : ByteArray) (h : x.size = y.size) (hb : ∀ i : Nat, i < x.size → bt x (i : Int) = bt y (i : Int)) : x = y := by
  refine ByteArray.ext_getElem h (fun i h1 h2 => ?_)
  have := hb i h1
  rw [bt_in x i h1, bt_in y i h2] at this
  exact UInt8.toNat_inj.1 (by omega)
theorem ex_size (s : ByteArray) {a b : Nat} (h : b ≤ s.size) : (s.extract a b).size = b - a := by rw [ByteArray.size_extract]; omega
theorem bt_ext (s : ByteArray) (a b i : Nat) (h : a + i < b) (hb : b ≤ s.size) : bt (s.extract a b) (i : Int) = bt s ((a + i : Nat) : Int) := by
  rw [bt_in _ i (by rw [ByteArray.size_extract]; omega), bt_in s (a + i) (by omega), ByteArray.getElem_extract]
theorem ex_all (s : ByteArray) : s.extract 0 s.size = s := ByteArray.extract_zero_size
/-- So many bytes both texts have alike, from the front. -/
def Like (t x : ByteArray) (m : Nat) : Prop := m ≤ t.size ∧ m ≤ x.size ∧ ∀ i : Nat, i < m → bt t (i : Int) = bt x (i : Int)
theorem Like.zero (t x : ByteArray) : Like t x 0 := ⟨Nat.zero_le _, Nat.zero_le _, fun i h => absurd h (Nat.not_lt_zero _)⟩
theorem Like.mono {t x : ByteArray} {m n : Nat} (h : Like t x m) (hn : n ≤ m) : Like t x n := ⟨Nat.le_trans hn h.1, Nat.le_trans hn h.2.1, fun i hi => h.2.2 i (Nat.lt_of_lt_of_le hi hn)⟩
theorem Like.ext {t x : ByteArray} {m : Nat} : Like t x m ↔ m ≤ t.size ∧ m ≤ x.size ∧ x.extract 0 m = t.extract 0 m := by
  constructor
  · rintro ⟨a, b, c⟩
    refine ⟨a, b, ba_ext _ _ (by rw [ex_size _ b, ex_size _ a]) (fun i hi => ?_)⟩
    rw [ex_size _ b] at hi
    have e1 := bt_ext x 0 m i (by omega) b
    have e2 := bt_ext t 0 m i (by omega) a
    rw [Nat.zero_add] at e1 e2
    rw [e1, e2, c i (by omega)]
  · rintro ⟨a, b, c⟩
    refine ⟨a, b, fun i hi => ?_⟩
    have e1 := bt_ext x 0 m i (by omega) b
    have e2 := bt_ext t 0 m i (by omega) a
    rw [Nat.zero_add] at e1 e2
    rw [← e1, ← e2, c]
/-- Where they part. -/
def lcp (t x : ByteArray) : Nat → Nat → Nat
  | 0, n => n
  | d + 1, n => if n < t.size ∧ n < x.size ∧ bt t (n : Int) = bt x (n : Int) then lcp t x d (n + 1) else n
theorem lcp_like (t x : ByteArray) : ∀ (d n : Nat), Like t x n → Like t x (lcp t x d n) ∧ n ≤ lcp t x d n
  | 0, n, h => ⟨h, Nat.le_refl _⟩
  | d + 1, n, h => by
    simp only [lcp]
    split
    · rename_i c
      obtain ⟨a, b⟩ := lcp_like t x d (n + 1) ⟨c.1, c.2.1, fun i hi => by
        by_cases e : i = n
        · rw [e]; exact c.2.2
        · exact h.2.2 i (by omega)⟩
      exact ⟨a, by omega⟩
    · exact ⟨h, Nat.le_refl _⟩
theorem lcp_max (t x : ByteArray) : ∀ (d n : Nat), t.size - n ≤ d → ∀ m, Like t x m → n ≤ m → m ≤ lcp t x d n
  | 0, n, hd, m, h, hn => by have := h.1; simp only [lcp]; omega
  | d + 1, n, hd, m, h, hn => by
    simp only [lcp]
    split
    · rename_i c
      by_cases e : n = m
      · by_cases z : Like t x (n + 1)
        · have := (lcp_like t x d (n + 1) z).2; omega
        · exact absurd ⟨c.1, c.2.1, fun i hi => by
            by_cases e2 : i = n
            · rw [e2]; exact c.2.2
            · exact h.2.2 i (by omega)⟩ z
      · exact lcp_max t x d (n + 1) (by omega) m h (by omega)
    · rename_i c
      by_cases e : n = m
      · omega
      · exact absurd ⟨by have := h.1; omega, by have := h.2.1; omega, h.2.2 n (by omega)⟩ c
/-- As many bytes as both have alike. -/
def lc (t x : ByteArray) : Nat := lcp t x t.size 0
theorem lc_like (t x : ByteArray) : Like t x (lc t x) := (lcp_like t x t.size 0 (Like.zero t x)).1
theorem lc_max {t x : ByteArray} {m : Nat} (h : Like t x m) : m ≤ lc t x := lcp_max t x t.size 0 (by omega) m h (Nat.zero_le _)
/-- A name of the table. -/
def nm (i : Nat) : ByteArray := rdOf ByteArray.empty tabG0 (i : Int)
/-- What is said of a text: the kind whose whole name is its longest beginning of a name (else less than 0), and how long this is. -/
structure LG (t : ByteArray) (k m : Int) : Prop where
  up : ∀ i, i < 58 → (lc t (nm i) : Int) ≤ m
  got : m = 0 ∨ ∃ i, i < 58 ∧ m = (lc t (nm i) : Int)
  in_ : -1 ≤ k ∧ k < 58
  yes : ∀ i : Nat, k = i → nm i = t.extract 0 m.toNat
  no : k < 0 → ∀ i, i < 58 → nm i ≠ t.extract 0 m.toNat
theorem nm_inj_all : ((List.range 58).all fun i => (List.range 58).all fun j => i == j || !((nm i).toList == (nm j).toList)) = true := by decide +kernel
theorem nm_inj {i j : Nat} (hi : i < 58) (hj : j < 58) (h : nm i = nm j) : i = j := by
  have := List.all_eq_true.1 (List.all_eq_true.1 nm_inj_all i (List.mem_range.2 hi)) j (List.mem_range.2 hj)
  rw [h] at this
  simpa using this
theorem nm_size_all : ((List.range 58).all fun i => decide (0 < (nm i).size) && decide ((nm i).size ≤ 10)) = true := by decide +kernel
theorem nm_size {i : Nat} (hi : i < 58) : 0 < (nm i).size ∧ (nm i).size ≤ 10 := by
  have := List.all_eq_true.1 nm_size_all i (List.mem_range.2 hi)
  simpa using this
theorem LG.one {t : ByteArray} {k m k' m' : Int} (h : LG t k m) (h' : LG t k' m') : k = k' ∧ m = m' := by
  have hm : m = m' := by
    have a1 : m ≤ m' := by
      rcases h.got with e | ⟨i, hi, e⟩
      · rcases h'.got with e' | ⟨j, hj, e'⟩ <;> omega
      · have := h'.up i hi; omega
    have a2 : m' ≤ m := by
      rcases h'.got with e | ⟨i, hi, e⟩
      · rcases h.got with e' | ⟨j, hj, e'⟩ <;> omega
      · have := h.up i hi; omega
    omega
  subst hm
  refine ⟨?_, rfl⟩
  have i1 := h.in_
  have i2 := h'.in_
  by_cases c : k < 0
  · by_cases c' : k' < 0
    · omega
    · obtain ⟨n, rfl⟩ : ∃ n : Nat, k' = n := ⟨k'.toNat, by omega⟩
      exact absurd (h'.yes n rfl) (h.no c n (by omega))
  · obtain ⟨n, rfl⟩ : ∃ n : Nat, k = n := ⟨k.toNat, by omega⟩
    by_cases c' : k' < 0
    · exact absurd (h.yes n rfl) (h'.no c' n (by omega))
    · obtain ⟨n', rfl⟩ : ∃ n : Nat, k' = n := ⟨k'.toNat, by omega⟩
      rw [nm_inj (by omega) (by omega) ((h.yes n rfl).trans (h'.yes n' rfl).symm)]
theorem lc_le (t x : ByteArray) : lc t x ≤ t.size ∧ lc t x ≤ x.size := ⟨(lc_like t x).1, (lc_like t x).2.1⟩
/-- A name that is a beginning of the text: it is the text's beginning of its length. -/
theorem full_iff {t x : ByteArray} : lc t x = x.size ↔ x.size ≤ t.size ∧ x = t.extract 0 x.size := by
  constructor
  · intro h
    have l := lc_like t x
    rw [h] at l
    have e := (Like.ext.1 l).2.2
    rw [ex_all] at e
    exact ⟨l.1, e⟩
  · rintro ⟨a, b⟩
    have : Like t x x.size := Like.ext.2 ⟨a, Nat.le_refl _, by rw [ex_all]; exact b⟩
    have := lc_max this
    have := lc_le t x
    omega
structure LI (t : ByteArray) (i : Nat) (k m : Int) : Prop where
  up : ∀ j, j < i → (lc t (nm j) : Int) ≤ m
  got : m = 0 ∨ ∃ j, j < i ∧ m = (lc t (nm j) : Int)
  in_ : -1 ≤ k ∧ k < i
  full : ∀ j : Nat, k = j → lc t (nm j) = (nm j).size
  most : ∀ j, j < i → lc t (nm j) = (nm j).size → ∃ n : Nat, k = n ∧ (nm j).size ≤ (nm n).size
theorem LI.m0 {t : ByteArray} {i : Nat} {k m : Int} (h : LI t i k m) : 0 ≤ m ∧ m ≤ t.size := by
  rcases h.got with e | ⟨j, hj, e⟩
  · omega
  · have := (lc_le t (nm j)).1; omega
theorem LI.zero (t : ByteArray) : LI t 0 (-1) 0 := ⟨fun j h => absurd h (Nat.not_lt_zero _), .inl rfl, by omega, fun j h => by omega, fun j h => absurd h (Nat.not_lt_zero _)⟩
/-- One name more. -/
theorem LI.step {t : ByteArray} {i : Nat} {k m : Int} (h : LI t i k m) (k' : Int)
    (hk : k' = if lc t (nm i) = (nm i).size ∧ (k < 0 ∨ ∃ n : Nat, k = n ∧ (nm n).size < lc t (nm i)) then (i : Int) else k) : LI t (i + 1) k' (mx m (lc t (nm i) : Int)) := by
  have hm : m ≤ mx m (lc t (nm i) : Int) ∧ (lc t (nm i) : Int) ≤ mx m (lc t (nm i) : Int) ∧ (mx m (lc t (nm i) : Int) = m ∨ mx m (lc t (nm i) : Int) = (lc t (nm i) : Int)) := by unfold mx; omega
  generalize mx m (lc t (nm i) : Int) = m' at hm ⊢
  refine ⟨fun j hj => ?_, ?_, ?_, fun j hj => ?_, fun j hj hf => ?_⟩
  · by_cases e : j = i
    · rw [e]; exact hm.2.1
    · have := h.up j (by omega); omega
  · rcases hm.2.2 with e | e
    · rcases h.got with e' | ⟨j, hj, e'⟩
      · left; omega
      · right; exact ⟨j, by omega, by omega⟩
    · right; exact ⟨i, by omega, e⟩
  · have := h.in_
    rw [hk]
    split <;> omega
  · rw [hk] at hj
    split at hj
    · rename_i c
      have : i = j := by omega
      rw [← this]; exact c.1
    · exact h.full j hj
  · rw [hk]
    by_cases e : j = i
    · subst e
      split
      · exact ⟨j, rfl, Nat.le_refl _⟩
      · rename_i c
        have i1 := h.in_
        by_cases z : k < 0
        · exact absurd ⟨hf, .inl z⟩ c
        · obtain ⟨n, rfl⟩ : ∃ n : Nat, k = n := ⟨k.toNat, by omega⟩
          by_cases z2 : (nm n).size < lc t (nm j)
          · exact absurd ⟨hf, .inr ⟨n, rfl, z2⟩⟩ c
          · exact ⟨n, rfl, by omega⟩
    · obtain ⟨n, hn, hs⟩ := h.most j (by omega) hf
      split
      · rename_i c
        rcases c.2 with z | ⟨n', hn', z⟩
        · omega
        · have : n = n' := by omega
          subst this
          exact ⟨i, rfl, by omega⟩
      · exact ⟨n, hn, hs⟩
/-- Behind the last one. -/
theorem LI.done {t : ByteArray} {k m : Int} (h : LI t 58 k m) : LG t (if ∃ n : Nat, k = n ∧ ((nm n).size : Int) < m then -1 else k) m := by
  have m0 := h.m0
  have i1 := h.in_
  refine ⟨h.up, h.got, ?_, fun j hj => ?_, fun hn j hj he => ?_⟩
  · split <;> omega
  · split at hj
    · omega
    · rename_i c
      have hf := h.full j hj
      have h1 := h.up j (by omega)
      have h2 : ¬ ((nm j).size : Int) < m := fun z => c ⟨j, hj, z⟩
      have e : m.toNat = (nm j).size := by omega
      rw [e]
      exact (full_iff.1 hf).2
  · have hs : (nm j).size = m.toNat := by rw [he, ex_size _ (by omega)]; omega
    have hf : lc t (nm j) = (nm j).size := full_iff.2 ⟨by omega, by rw [hs]; exact he⟩
    obtain ⟨n, hk, hl⟩ := h.most j hj hf
    split at hn
    · rename_i c
      obtain ⟨n', hk', z⟩ := c
      have : n = n' := by omega
      subst this
      omega
    · omega
theorem longest_end (t : ByteArray) (k : Int) (m : Int) (h : LI t 58 k m) : Ev (fun n => tree_longest.l0 n t k m 58) (if ∃ n : Nat, k = n ∧ ((nm n).size : Int) < m then -1 else k, m) := by
  have i1 := h.in_
  refine Ev.step (f := fun _ => some (if ∃ n : Nat, k = n ∧ ((nm n).size : Int) < m then -1 else k, m)) (fun n => ?_) (Ev.now _)
  simp only [tree_longest.l0]
  rw [if_neg (by omega)]
  by_cases c : k ≥ 0
  · obtain ⟨n', rfl⟩ : ∃ n : Nat, k = n := ⟨k.toNat, by omega⟩
    rw [if_pos c, if_pos c, if_pos (by omega)]
    by_cases c2 : ((nm n').size : Int) < m
    · rw [if_pos (by exact c2), if_pos ⟨n', rfl, c2⟩]
    · have hx : ¬ ∃ n : Nat, (n' : Int) = n ∧ ((nm n).size : Int) < m := fun ⟨n2, h2, h3⟩ => by
        have : n' = n2 := by omega
        subst this
        exact c2 h3
      rw [if_neg (by exact c2), if_neg hx]
  · rw [if_neg c, if_neg (fun ⟨n2, h2, _⟩ => by omega)]
/-- What stands behind the inner loop. -/
def aft (n : Nat) (t : ByteArray) (x4 x5 x6 : Int) (x7 : ByteArray) (x8 x10 : Int) : Option (Int × Int) :=
  (if x8 = (x7.size : Int) then (if x4 < 0 then (tree_longest.l0 n t x6 (mx x5 x8) (wrap64 (x10 + 1))) else (if 0 ≤ x4 then (if x4 < 58 then (if x8 > ((rdOf ByteArray.empty tabG0 x4).size : Int) then (tree_longest.l0 n t x6 (mx x5 x8) (wrap64 (x10 + 1))) else (tree_longest.l0 n t x4 (mx x5 x8) (wrap64 (x10 + 1)))) else (none)) else (none))) else (tree_longest.l0 n t x4 (mx x5 x8) (wrap64 (x10 + 1))))
theorem l1_is (t : ByteArray) (hs : t.size ≤ 9223372036854775806) (x4 x5 : Int) (x7 : ByteArray) (x6 x10 : Int) (r : Int × Int) : ∀ (d m : Nat), t.size - m ≤ d → Like t x7 m →
    Ev (fun n => aft n t x4 x5 x6 x7 (lcp t x7 d m : Int) x10) r → Ev (fun n => tree_longest.l1 n t x4 x5 x6 x7 (m : Int) x10) r
  | d, m, hd, hl, h => by
    have h1 := hl.1
    by_cases c1 : m < t.size
    · by_cases c2 : m < x7.size
      · by_cases c3 : bt t (m : Int) = bt x7 (m : Int)
        · obtain ⟨d, rfl⟩ : ∃ e, d = e + 1 := ⟨d - 1, by omega⟩
          simp only [lcp] at h
          rw [if_pos ⟨c1, c2, c3⟩] at h
          refine Ev.step (f := fun n => tree_longest.l1 n t x4 x5 x6 x7 ((m + 1 : Nat) : Int) x10) (fun n => ?_) (l1_is t hs x4 x5 x7 x6 x10 r d (m + 1) (by omega) ⟨c1, c2, fun i hi => ?_⟩ h)
          · simp only [tree_longest.l1]
            rw [if_pos (by omega), if_pos (by omega), if_pos (by omega), if_pos c3, w64 (by omega) (by omega)]
            rfl
          · by_cases e : i = m
            · rw [e]; exact c3
            · exact hl.2.2 i (by omega)
        · have e : lcp t x7 d m = m := by
            cases d with
            | zero => rfl
            | succ d => simp only [lcp]; rw [if_neg (fun z => c3 z.2.2)]
          rw [e] at h
          refine Ev.step (f := fun n => aft n t x4 x5 x6 x7 (m : Int) x10) (fun n => ?_) h
          simp only [tree_longest.l1]
          rw [if_pos (by omega), if_pos (by omega), if_pos (by omega), if_neg c3]
          rfl
      · have e : lcp t x7 d m = m := by
          cases d with
          | zero => rfl
          | succ d => simp only [lcp]; rw [if_neg (fun z => c2 z.2.1)]
        rw [e] at h
        refine Ev.step (f := fun n => aft n t x4 x5 x6 x7 (m : Int) x10) (fun n => ?_) h
        simp only [tree_longest.l1]
        rw [if_pos (by omega), if_neg (by omega)]
        rfl
    · have e : lcp t x7 d m = m := by
        cases d with
        | zero => rfl
        | succ d => simp only [lcp]; rw [if_neg (fun z => c1 z.1)]
      rw [e] at h
      refine Ev.step (f := fun n => aft n t x4 x5 x6 x7 (m : Int) x10) (fun n => ?_) h
      simp only [tree_longest.l1]
      rw [if_neg (by omega)]
      rfl
termination_by d => d
theorem longest_l0 (t : ByteArray) (hs : t.size ≤ 9223372036854775806) : ∀ (d i : Nat) (k m : Int), 58 - i = d → i ≤ 58 → LI t i k m → ∃ K M, LG t K M ∧ Ev (fun n => tree_longest.l0 n t k m (i : Int)) (K, M)
  | 0, i, k, m, hd, hi, h => by
    obtain rfl : i = 58 := by omega
    exact ⟨_, _, h.done, longest_end t k m h⟩
  | d + 1, i, k, m, hd, hi, h => by
    have i1 := h.in_
    obtain ⟨K, M, hg, he⟩ := longest_l0 t hs d (i + 1) _ _ (by omega) (by omega) (h.step _ rfl)
    refine ⟨K, M, hg, Ev.step (f := fun n => tree_longest.l1 n t k m (i : Int) (nm i) ((0 : Nat) : Int) (i : Int)) (fun n => ?_) (l1_is t hs k m (nm i) (i : Int) (i : Int) (K, M) t.size 0 (by omega) (Like.zero _ _) ?_)⟩
    · simp only [tree_longest.l0]
      rw [if_pos (by omega), if_pos (by omega)]
      rfl
    · have hw : wrap64 ((i : Int) + 1) = ((i + 1 : Nat) : Int) := by rw [w64 (by omega) (by omega)]; rfl
      have hl : lcp t (nm i) t.size 0 = lc t (nm i) := rfl
      unfold aft
      rw [hw, hl]
      by_cases c : lc t (nm i) = (nm i).size
      · simp only [if_pos (show (lc t (nm i) : Int) = ((nm i).size : Int) by omega)]
        by_cases c2 : k < 0
        · rw [if_pos ⟨c, .inl c2⟩] at he
          simp only [if_pos c2]
          exact he
        · obtain ⟨n', rfl⟩ : ∃ n : Nat, k = n := ⟨k.toNat, by omega⟩
          simp only [if_neg c2, if_pos (show (0 : Int) ≤ (n' : Int) by omega), if_pos (show (n' : Int) < 58 by omega)]
          by_cases c3 : (nm n').size < lc t (nm i)
          · rw [if_pos ⟨c, .inr ⟨n', rfl, c3⟩⟩] at he
            simp only [if_pos (show (lc t (nm i) : Int) > ((rdOf ByteArray.empty tabG0 (n' : Int)).size : Int) from by show ((nm n').size : Int) < _; omega)]
            exact he
          · rw [if_neg (fun z => by
              rcases z.2 with z | ⟨n2, h2, z⟩
              · omega
              · have : n' = n2 := by omega
                subst this
                exact c3 z)] at he
            simp only [if_neg (show ¬ (lc t (nm i) : Int) > ((rdOf ByteArray.empty tabG0 (n' : Int)).size : Int) from by show ¬ ((nm n').size : Int) < _; omega)]
            exact he
      · rw [if_neg (fun z => c z.1)] at he
        simp only [if_neg (show ¬ (lc t (nm i) : Int) = ((nm i).size : Int) by omega)]
        exact he
theorem longest_is (t : ByteArray) (hs : t.size ≤ 9223372036854775806) : ∃ K M, LG t K M ∧ Ev (fun n => tree_longest.f n t) (K, M) := longest_l0 t hs 58 0 (-1) 0 rfl (by omega) (LI.zero t)
end Go.Proofs.YtodldpdnhcafpaaDoor.Q

-- A text of this session's own program (wip/myprint.sh over a changed print tool): functions and their walks
namespace Go.Proofs.YtodldpdnhcafpaaDoor.F
open Go.RowKit Go.Proofs.YtodldpdnhcafpaaDoorW.PrintWords Go.Proofs.YtodldpdnhcafpaaDoorW.PrintLast Go.Proofs.YtodldpdnhcafpaaDoorW.PrintMore
attribute [local go_sem] max2_int min2_int max_two min_two max_three min_three max_four min_four   -- for this text's walks alone
set_option linter.unusedVariables false
set_option linter.unusedSimpArgs false

theorem eqA68 (d : Nat) (w : World) (x0 y0 : Int) (x1 y1 : Int) (x2 y2 : Int) :
    (Op.equalIn (d + 2) 68 (.agg #[.int .u8 x0, .int .i64 x1, .int .i64 x2]) (.agg #[.int .u8 y0, .int .i64 y1, .int .i64 y2])).run Tryd.prog w = .ok (x0 == y0 && (x1 == y1 && (x2 == y2))) w := by
  refine eqA_of Tryd.underlying68 (by kernel_rfl) ?_
  refine eqf_cons (by rfl) (by go_simp; rfl) (by go_simp; rfl) (by go_simp) ?_
  refine eqf_cons (by rfl) (by go_simp; rfl) (by go_simp; rfl) (by go_simp) ?_
  exact eqf_last (by rfl) (by go_simp; rfl) (by go_simp; rfl) (by go_simp)
end Go.Proofs.YtodldpdnhcafpaaDoor.F

-- A text of this session's own program (wip/myprint.sh over a changed print tool): functions and their walks
namespace Go.Proofs.YtodldpdnhcafpaaDoor.F
open Go.RowKit Go.Proofs.YtodldpdnhcafpaaDoorW.PrintWords Go.Proofs.YtodldpdnhcafpaaDoorW.PrintLast Go.Proofs.YtodldpdnhcafpaaDoorW.PrintMore
attribute [local go_sem] max2_int min2_int max_two min_two max_three min_three max_four min_four   -- for this text's walks alone
set_option linter.unusedVariables false
set_option linter.unusedSimpArgs false

theorem eqA43 (d : Nat) (w : World) (x0 y0 : Int) (x1 y1 : Int) (x2 y2 : Int) (x3 y3 : Int) :
    (Op.equalIn (d + 2) 43 (.agg #[.int .u8 x0, .int .i64 x1, .int .i64 x2, .int .i64 x3]) (.agg #[.int .u8 y0, .int .i64 y1, .int .i64 y2, .int .i64 y3])).run Tryd.prog w = .ok (x0 == y0 && (x1 == y1 && (x2 == y2 && (x3 == y3)))) w := by
  refine eqA_of Tryd.underlying43 (by kernel_rfl) ?_
  refine eqf_cons (by rfl) (by go_simp; rfl) (by go_simp; rfl) (by go_simp) ?_
  refine eqf_cons (by rfl) (by go_simp; rfl) (by go_simp; rfl) (by go_simp) ?_
  refine eqf_cons (by rfl) (by go_simp; rfl) (by go_simp; rfl) (by go_simp) ?_
  exact eqf_last (by rfl) (by go_simp; rfl) (by go_simp; rfl) (by go_simp)
end Go.Proofs.YtodldpdnhcafpaaDoor.F

-- A text of this session's own program (wip/myprint.sh over a changed print tool): functions and their walks
namespace Go.Proofs.YtodldpdnhcafpaaDoor.F
open Go.RowKit Go.Proofs.YtodldpdnhcafpaaDoorW.PrintWords Go.Proofs.YtodldpdnhcafpaaDoorW.PrintLast Go.Proofs.YtodldpdnhcafpaaDoorW.PrintMore
attribute [local go_sem] max2_int min2_int max_two min_two max_three min_three max_four min_four   -- for this text's walks alone
set_option linter.unusedVariables false
set_option linter.unusedSimpArgs false

attribute [local go_sem high] eqA43
/-! ### monikerplain_SameTree: function 9 -/
def monikerplain_SameTree.l0 : Nat → Int → Int → List (S43) → List (S43) → Option (Bool)
  | 0, _, _, _, _ => none
  | k + 1, x15, x16, x131000, x132000 => if x16 < x15 then (if 0 ≤ x16 then (if x16 < (x131000.length : Int) then (if x16 < (x132000.length : Int) then (if (!(((rd_T43 x131000 x16).f0) == ((rd_T43 x132000 x16).f0)) || (!(((rd_T43 x131000 x16).f1) == ((rd_T43 x132000 x16).f1)) || (!(((rd_T43 x131000 x16).f2) == ((rd_T43 x132000 x16).f2)) || (!(((rd_T43 x131000 x16).f3) == ((rd_T43 x132000 x16).f3)))))) = true then (some false) else (monikerplain_SameTree.l0 k x15 (wrap64 (x16 + 1)) x131000 x132000)) else (none)) else (none)) else (none)) else (some true)
def monikerplain_SameTree.f (k : Nat) (l0_0 : List (S43)) (l1_0 : List (S43)) : Option (Bool) := if (l0_0.length : Int) = (l1_0.length : Int) then (monikerplain_SameTree.l0 k (l0_0.length : Int) 0 l0_0 l1_0) else (some false)
set_option maxHeartbeats 8000000 in
set_option maxRecDepth 100000 in
theorem monikerplain_SameTree.calls (k : Nat) (A0_0 : Option Addr) (c0_0 : Nat) (l0_0 : List (S43)) (A1_0 : Option Addr) (c1_0 : Nat) (l1_0 : List (S43)) (r : Bool) (w : World) (hr0_0 : Kd.C k43 w A0_0 l0_0.length l0_0) (hc0_0 : l0_0.length ≤ c0_0) (hr1_0 : Kd.C k43 w A1_0 l1_0.length l1_0) (hc1_0 : l1_0.length ≤ c1_0) (h : monikerplain_SameTree.f k l0_0 l1_0 = some r) :
    Calls Tryd.prog 9 #[.agg #[.slice A0_0 l0_0.length c0_0], .agg #[.slice A1_0 l1_0.length c1_0]] w fun e w' => e = .returned (.bool r) ∧ Below w.heap.size w w' := by
  have hu24 := Tryd.underlying24
  have hu43 := Tryd.underlying43
  have HR0_0 := Aside0.mk hr0_0
  have HC0_0 := Aside0.mk hc0_0
  clear hr0_0 hc0_0
  have HR1_0 := Aside0.mk hr1_0
  have HC1_0 := Aside0.mk hc1_0
  clear hr1_0 hc1_0
  have HB := Aside0.mk (Below.refl w.heap.size w)
  have H : (if (l0_0.length : Int) = (l1_0.length : Int) then (monikerplain_SameTree.l0 k (l0_0.length : Int) 0 l0_0 l1_0) else (some false)) = some r := h
  clear h
  by_cases c3 : (l0_0.length : Int) = (l1_0.length : Int)
  · rw [if_pos c3] at H
    have c3b0 : ((l0_0.length : Int) == (l1_0.length : Int)) = true := beq_iff_eq.mpr c3
    have c3b1 : ((l0_0.length : Int) != (l1_0.length : Int)) = false := bne_eq_false_iff_eq.mpr c3
    have c3b2 : (l0_0.length == l1_0.length) = true := by first | simpa using c3 | (simp at c3 ⊢; omega)
    clear c3
    have H' := Aside0.mk H
    clear H
    go_enter Tryd.func9, Tryd.ntmps9
    go_wp2_with (first | ((with_reducible refine gate_dst (N := 2) rfl ?_); refine box_event ?hg (N := 2) ?hd (cs := #[.slice A0_0 l0_0.length c0_0]) (t := 24) ?hr ?_; (case hd => rfl); (case hg => rfl); (case hr => first | (go_simp; done) | (go_simp; rfl)); intro gb130 hg w4 hbox hb; have n0_ := Aside0.mk (below_step (by repeat (first | (with_reducible first | exact HB.out | apply below_alloc | apply pw_below_drewN | apply below_drew1) | exact HB.out)) hb); have n1_ := Aside0.mk (hbox); have n2_ := Aside0.mk ((by rw [hg]; exact (below_size (by repeat (first | (with_reducible first | exact HB.out | apply below_alloc | apply pw_below_drewN | apply below_drew1) | exact HB.out))) : w.heap.size ≤ gb130)); have n3_ := Aside0.mk ((by rw [hg]; exact (below_size (by repeat (first | (with_reducible first | exact HB.out | apply below_alloc | apply pw_below_drewN | apply below_drew1) | exact HB.out))) : w.heap.size ≤ gb130)); clear HB; have HB := n0_; have BK130 := n1_; have GW130 := n2_; have GE130 := n3_; clear n0_ n1_ n2_ n3_; clear hb hbox hg) | ((with_reducible refine gate_dst (N := 3) rfl ?_); refine box_event ?hg (N := 3) ?hd (cs := #[.slice A1_0 l1_0.length c1_0]) (t := 24) ?hr ?_; (case hd => rfl); (case hg => rfl); (case hr => first | (go_simp; done) | (go_simp; rfl)); intro gb131 hg w5 hbox hb; have n0_ := Aside0.mk (blk_below (g := gb130) (o := .cells #[.slice A0_0 l0_0.length c0_0] 24 (0, 0)) (by (with_reducible repeat (first | refine blk_drewN ?_ _ | refine blk_drew ?_ | refine blk_alloc ?_ _)); exact BK130.out) hb); have n1_ := Aside0.mk (below_step (by repeat (first | (with_reducible first | exact HB.out | apply below_alloc | apply pw_below_drewN | apply below_drew1 | refine below_set ?_ GE130.out) | exact HB.out)) hb); have n2_ := Aside0.mk (hbox); have n3_ := Aside0.mk ((by rw [hg]; exact (below_size (by repeat (first | (with_reducible first | exact HB.out | apply below_alloc | apply pw_below_drewN | apply below_drew1 | refine below_set ?_ GE130.out) | exact HB.out))) : w.heap.size ≤ gb131)); have n4_ := Aside0.mk ((by rw [hg]; exact (below_size (by repeat (first | (with_reducible first | exact HB.out | apply below_alloc | apply pw_below_drewN | apply below_drew1 | refine below_set ?_ GE130.out) | exact HB.out))) : w.heap.size ≤ gb131)); have n5_ := Aside0.mk ((by rw [hg]; exact Nat.ne_of_lt (blk_lt (g := gb130) (o := .cells #[.slice A0_0 l0_0.length c0_0] 24 (0, 0)) (by (with_reducible repeat (first | refine blk_drewN ?_ _ | refine blk_drew ?_ | refine blk_alloc ?_ _)); exact BK130.out)) : gb130 ≠ gb131)); have n6_ := Aside0.mk ((by rw [hg]; exact Nat.ne_of_gt (blk_lt (g := gb130) (o := .cells #[.slice A0_0 l0_0.length c0_0] 24 (0, 0)) (by (with_reducible repeat (first | refine blk_drewN ?_ _ | refine blk_drew ?_ | refine blk_alloc ?_ _)); exact BK130.out)) : gb131 ≠ gb130)); clear BK130; clear HB; have BK130 := n0_; have HB := n1_; have BK131 := n2_; have GW131 := n3_; have GE131 := n4_; have NB130_131 := n5_; have NB131_130 := n6_; clear n0_ n1_ n2_ n3_ n4_ n5_ n6_; clear hb hbox hg; have hnb6 := NB130_131.out; have hnc6 := NB131_130.out; have hcz7_0 : w5.cell? ⟨gb130, 0, none⟩ = some (.slice A0_0 l0_0.length c0_0) := (blk_cell BK130.out 0).trans rfl; have hfz7_0 := blk_frozen BK130.out 0; have hcz8_0 : w5.cell? ⟨gb131, 0, none⟩ = some (.slice A1_0 l1_0.length c1_0) := (blk_cell BK131.out 0).trans rfl; have hfz8_0 := blk_frozen BK131.out 0))
    repeat (go_quiet (first | ((with_reducible refine gate_dst (N := 2) rfl ?_); refine box_event ?hg (N := 2) ?hd (cs := #[.slice A0_0 l0_0.length c0_0]) (t := 24) ?hr ?_; (case hd => rfl); (case hg => rfl); (case hr => first | (go_simp; done) | (go_simp; rfl)); intro gb130 hg w4 hbox hb; have n0_ := Aside0.mk (below_step (by repeat (first | (with_reducible first | exact HB.out | apply below_alloc | apply pw_below_drewN | apply below_drew1) | exact HB.out)) hb); have n1_ := Aside0.mk (hbox); have n2_ := Aside0.mk ((by rw [hg]; exact (below_size (by repeat (first | (with_reducible first | exact HB.out | apply below_alloc | apply pw_below_drewN | apply below_drew1) | exact HB.out))) : w.heap.size ≤ gb130)); have n3_ := Aside0.mk ((by rw [hg]; exact (below_size (by repeat (first | (with_reducible first | exact HB.out | apply below_alloc | apply pw_below_drewN | apply below_drew1) | exact HB.out))) : w.heap.size ≤ gb130)); clear HB; have HB := n0_; have BK130 := n1_; have GW130 := n2_; have GE130 := n3_; clear n0_ n1_ n2_ n3_; clear hb hbox hg) | ((with_reducible refine gate_dst (N := 3) rfl ?_); refine box_event ?hg (N := 3) ?hd (cs := #[.slice A1_0 l1_0.length c1_0]) (t := 24) ?hr ?_; (case hd => rfl); (case hg => rfl); (case hr => first | (go_simp; done) | (go_simp; rfl)); intro gb131 hg w5 hbox hb; have n0_ := Aside0.mk (blk_below (g := gb130) (o := .cells #[.slice A0_0 l0_0.length c0_0] 24 (0, 0)) (by (with_reducible repeat (first | refine blk_drewN ?_ _ | refine blk_drew ?_ | refine blk_alloc ?_ _)); exact BK130.out) hb); have n1_ := Aside0.mk (below_step (by repeat (first | (with_reducible first | exact HB.out | apply below_alloc | apply pw_below_drewN | apply below_drew1 | refine below_set ?_ GE130.out) | exact HB.out)) hb); have n2_ := Aside0.mk (hbox); have n3_ := Aside0.mk ((by rw [hg]; exact (below_size (by repeat (first | (with_reducible first | exact HB.out | apply below_alloc | apply pw_below_drewN | apply below_drew1 | refine below_set ?_ GE130.out) | exact HB.out))) : w.heap.size ≤ gb131)); have n4_ := Aside0.mk ((by rw [hg]; exact (below_size (by repeat (first | (with_reducible first | exact HB.out | apply below_alloc | apply pw_below_drewN | apply below_drew1 | refine below_set ?_ GE130.out) | exact HB.out))) : w.heap.size ≤ gb131)); have n5_ := Aside0.mk ((by rw [hg]; exact Nat.ne_of_lt (blk_lt (g := gb130) (o := .cells #[.slice A0_0 l0_0.length c0_0] 24 (0, 0)) (by (with_reducible repeat (first | refine blk_drewN ?_ _ | refine blk_drew ?_ | refine blk_alloc ?_ _)); exact BK130.out)) : gb130 ≠ gb131)); have n6_ := Aside0.mk ((by rw [hg]; exact Nat.ne_of_gt (blk_lt (g := gb130) (o := .cells #[.slice A0_0 l0_0.length c0_0] 24 (0, 0)) (by (with_reducible repeat (first | refine blk_drewN ?_ _ | refine blk_drew ?_ | refine blk_alloc ?_ _)); exact BK130.out)) : gb131 ≠ gb130)); clear BK130; clear HB; have BK130 := n0_; have HB := n1_; have BK131 := n2_; have GW131 := n3_; have GE131 := n4_; have NB130_131 := n5_; have NB131_130 := n6_; clear n0_ n1_ n2_ n3_ n4_ n5_ n6_; clear hb hbox hg; have hnb6 := NB130_131.out; have hnc6 := NB131_130.out; have hcz7_0 : w5.cell? ⟨gb130, 0, none⟩ = some (.slice A0_0 l0_0.length c0_0) := (blk_cell BK130.out 0).trans rfl; have hfz7_0 := blk_frozen BK130.out 0; have hcz8_0 : w5.cell? ⟨gb131, 0, none⟩ = some (.slice A1_0 l1_0.length c1_0) := (blk_cell BK131.out 0).trans rfl; have hfz8_0 := blk_frozen BK131.out 0)); try go_wp2_with (first | ((with_reducible refine gate_dst (N := 2) rfl ?_); refine box_event ?hg (N := 2) ?hd (cs := #[.slice A0_0 l0_0.length c0_0]) (t := 24) ?hr ?_; (case hd => rfl); (case hg => rfl); (case hr => first | (go_simp; done) | (go_simp; rfl)); intro gb130 hg w4 hbox hb; have n0_ := Aside0.mk (below_step (by repeat (first | (with_reducible first | exact HB.out | apply below_alloc | apply pw_below_drewN | apply below_drew1) | exact HB.out)) hb); have n1_ := Aside0.mk (hbox); have n2_ := Aside0.mk ((by rw [hg]; exact (below_size (by repeat (first | (with_reducible first | exact HB.out | apply below_alloc | apply pw_below_drewN | apply below_drew1) | exact HB.out))) : w.heap.size ≤ gb130)); have n3_ := Aside0.mk ((by rw [hg]; exact (below_size (by repeat (first | (with_reducible first | exact HB.out | apply below_alloc | apply pw_below_drewN | apply below_drew1) | exact HB.out))) : w.heap.size ≤ gb130)); clear HB; have HB := n0_; have BK130 := n1_; have GW130 := n2_; have GE130 := n3_; clear n0_ n1_ n2_ n3_; clear hb hbox hg) | ((with_reducible refine gate_dst (N := 3) rfl ?_); refine box_event ?hg (N := 3) ?hd (cs := #[.slice A1_0 l1_0.length c1_0]) (t := 24) ?hr ?_; (case hd => rfl); (case hg => rfl); (case hr => first | (go_simp; done) | (go_simp; rfl)); intro gb131 hg w5 hbox hb; have n0_ := Aside0.mk (blk_below (g := gb130) (o := .cells #[.slice A0_0 l0_0.length c0_0] 24 (0, 0)) (by (with_reducible repeat (first | refine blk_drewN ?_ _ | refine blk_drew ?_ | refine blk_alloc ?_ _)); exact BK130.out) hb); have n1_ := Aside0.mk (below_step (by repeat (first | (with_reducible first | exact HB.out | apply below_alloc | apply pw_below_drewN | apply below_drew1 | refine below_set ?_ GE130.out) | exact HB.out)) hb); have n2_ := Aside0.mk (hbox); have n3_ := Aside0.mk ((by rw [hg]; exact (below_size (by repeat (first | (with_reducible first | exact HB.out | apply below_alloc | apply pw_below_drewN | apply below_drew1 | refine below_set ?_ GE130.out) | exact HB.out))) : w.heap.size ≤ gb131)); have n4_ := Aside0.mk ((by rw [hg]; exact (below_size (by repeat (first | (with_reducible first | exact HB.out | apply below_alloc | apply pw_below_drewN | apply below_drew1 | refine below_set ?_ GE130.out) | exact HB.out))) : w.heap.size ≤ gb131)); have n5_ := Aside0.mk ((by rw [hg]; exact Nat.ne_of_lt (blk_lt (g := gb130) (o := .cells #[.slice A0_0 l0_0.length c0_0] 24 (0, 0)) (by (with_reducible repeat (first | refine blk_drewN ?_ _ | refine blk_drew ?_ | refine blk_alloc ?_ _)); exact BK130.out)) : gb130 ≠ gb131)); have n6_ := Aside0.mk ((by rw [hg]; exact Nat.ne_of_gt (blk_lt (g := gb130) (o := .cells #[.slice A0_0 l0_0.length c0_0] 24 (0, 0)) (by (with_reducible repeat (first | refine blk_drewN ?_ _ | refine blk_drew ?_ | refine blk_alloc ?_ _)); exact BK130.out)) : gb131 ≠ gb130)); clear BK130; clear HB; have BK130 := n0_; have HB := n1_; have BK131 := n2_; have GW131 := n3_; have GE131 := n4_; have NB130_131 := n5_; have NB131_130 := n6_; clear n0_ n1_ n2_ n3_ n4_ n5_ n6_; clear hb hbox hg; have hnb6 := NB130_131.out; have hnc6 := NB131_130.out; have hcz7_0 : w5.cell? ⟨gb130, 0, none⟩ = some (.slice A0_0 l0_0.length c0_0) := (blk_cell BK130.out 0).trans rfl; have hfz7_0 := blk_frozen BK130.out 0; have hcz8_0 : w5.cell? ⟨gb131, 0, none⟩ = some (.slice A1_0 l1_0.length c1_0) := (blk_cell BK131.out 0).trans rfl; have hfz8_0 := blk_frozen BK131.out 0)))
    go_loopg [16] k (fun kq v16 w' => ∃ (x16_1 : Int), v16 = .int .i64 x16_1 ∧ Aside0 (monikerplain_SameTree.l0 kq (l0_0.length : Int) x16_1 l0_0 l1_0 = some r) ∧ Aside0 (kq ≤ k) ∧ Aside0 (w'.heap[gb130]? = some (.cells #[(.slice A0_0 l0_0.length c0_0)] 24 (0, 0))) ∧ Aside0 (w'.heap[gb131]? = some (.cells #[(.slice A1_0 l1_0.length c1_0)] 24 (0, 0))) ∧ Aside0 (Below w.heap.size w w'))
    case atStart => exact ⟨(0), (by first | rfl | (simp; done) | (simp [*]; done)), H', ⟨Nat.le_refl _⟩, ⟨by (with_reducible repeat (first | refine blk_drewN ?_ _ | refine blk_drew ?_ | refine blk_alloc ?_ _)); exact BK130.out⟩, ⟨by (with_reducible repeat (first | refine blk_drewN ?_ _ | refine blk_drew ?_ | refine blk_alloc ?_ _)); exact BK131.out⟩, ⟨by repeat (first | (with_reducible first | exact HB.out | apply below_alloc | apply pw_below_drewN | apply below_drew1 | refine below_set ?_ GE130.out | refine below_set ?_ GE131.out) | exact HB.out)⟩⟩
    case round =>
      clear H'
      try clear c1
      try clear p2
      try clear c3
      try clear c3b0
      try clear c3b1
      try clear c3b2
      try clear c6
      try clear hcz7_0
      try clear hcz8_0
      try clear hfz7_0
      try clear hfz8_0
      obtain ⟨x16_1, rfl, HA, HK1, BK130, BK131, HB⟩ := hrel
      cases gk with
      | zero => exact absurd HA.out (by simp [monikerplain_SameTree.l0])
      | succ k1 =>
        have H := HA.out
        clear HA
        simp only [monikerplain_SameTree.l0] at H
        by_cases c9 : x16_1 < (l0_0.length : Int)
        · rw [if_pos c9] at H
          have c9b0 : decide (x16_1 < (l0_0.length : Int)) = true := decide_eq_true c9
          clear c9
          by_cases c10 : 0 ≤ x16_1
          · rw [if_pos c10] at H
            have c10b0 : decide (0 ≤ x16_1) = true := decide_eq_true c10
            clear c10
            by_cases c11 : x16_1 < (l0_0.length : Int)
            · rw [if_pos c11] at H
              have c11b0 : decide (x16_1 < (l0_0.length : Int)) = true := decide_eq_true c11
              clear c11
              by_cases c12 : x16_1 < (l1_0.length : Int)
              · rw [if_pos c12] at H
                have c12b0 : decide (x16_1 < (l1_0.length : Int)) = true := decide_eq_true c12
                clear c12
                by_cases c13 : (!(((rd_T43 l0_0 x16_1).f0) == ((rd_T43 l1_0 x16_1).f0)) || (!(((rd_T43 l0_0 x16_1).f1) == ((rd_T43 l1_0 x16_1).f1)) || (!(((rd_T43 l0_0 x16_1).f2) == ((rd_T43 l1_0 x16_1).f2)) || (!(((rd_T43 l0_0 x16_1).f3) == ((rd_T43 l1_0 x16_1).f3)))))) = true
                · rw [if_pos c13] at H
                  have c13b0 : (!(((rd_T43 l0_0 x16_1).f0) == ((rd_T43 l1_0 x16_1).f0)) || (!(((rd_T43 l0_0 x16_1).f1) == ((rd_T43 l1_0 x16_1).f1)) || (!(((rd_T43 l0_0 x16_1).f2) == ((rd_T43 l1_0 x16_1).f2)) || (!(((rd_T43 l0_0 x16_1).f3) == ((rd_T43 l1_0 x16_1).f3)))))) = true := c13
                  clear c13
                  obtain rfl := Option.some.inj H
                  have hnb14 := NB130_131.out
                  have hnc14 := NB131_130.out
                  have hcz15_0 : wr.cell? ⟨gb130, 0, none⟩ = some (.slice A0_0 l0_0.length c0_0) := (blk_cell BK130.out 0).trans rfl
                  have hfz15_0 := blk_frozen BK130.out 0
                  have p132 : 0 ≤ (x16_1 : Int) := of_decide_eq_true (by first | (with_reducible assumption) | assumption)
                  have q132 : x16_1 < (l0_0.length : Int) := of_decide_eq_true (by first | (with_reducible assumption) | assumption)
                  obtain ⟨ad132, e132, hx132_0, hx132_1, hx132_2, hx132_3⟩ := at_T43 HR0_0.out x16_1 p132 q132
                  cases e132
                  replace hx132_0 := (HB.out.cell (World.block_lt_of_cell? w _ hx132_0)).trans hx132_0
                  replace hx132_1 := (HB.out.cell (World.block_lt_of_cell? w _ hx132_1)).trans hx132_1
                  replace hx132_2 := (HB.out.cell (World.block_lt_of_cell? w _ hx132_2)).trans hx132_2
                  replace hx132_3 := (HB.out.cell (World.block_lt_of_cell? w _ hx132_3)).trans hx132_3
                  replace p132 := eq_true p132
                  replace q132 := eq_true q132
                  have hcz16_0 : wr.cell? ⟨gb131, 0, none⟩ = some (.slice A1_0 l1_0.length c1_0) := (blk_cell BK131.out 0).trans rfl
                  have hfz16_0 := blk_frozen BK131.out 0
                  have p133 : 0 ≤ (x16_1 : Int) := of_decide_eq_true (by first | (with_reducible assumption) | assumption)
                  have q133 : x16_1 < (l1_0.length : Int) := of_decide_eq_true (by first | (with_reducible assumption) | assumption)
                  obtain ⟨ad133, e133, hx133_0, hx133_1, hx133_2, hx133_3⟩ := at_T43 HR1_0.out x16_1 p133 q133
                  cases e133
                  replace hx133_0 := (HB.out.cell (World.block_lt_of_cell? w _ hx133_0)).trans hx133_0
                  replace hx133_1 := (HB.out.cell (World.block_lt_of_cell? w _ hx133_1)).trans hx133_1
                  replace hx133_2 := (HB.out.cell (World.block_lt_of_cell? w _ hx133_2)).trans hx133_2
                  replace hx133_3 := (HB.out.cell (World.block_lt_of_cell? w _ hx133_3)).trans hx133_3
                  replace p133 := eq_true p133
                  replace q133 := eq_true q133
                  go_wp2
                  repeat (go_quiet (fail); try go_wp2)
                  go_ret
                  exact ⟨by first | rfl | (simp [errW_none, errW_some] <;> rfl) | (simp [*, errW_none, errW_some] <;> rfl), by repeat (first | (with_reducible first | exact HB.out | apply below_alloc | apply pw_below_drewN | apply below_drew1 | refine below_set ?_ GE130.out | refine below_set ?_ GE131.out) | exact HB.out)⟩
                · rw [if_neg c13] at H
                  have c13b0 : (!(((rd_T43 l0_0 x16_1).f0) == ((rd_T43 l1_0 x16_1).f0)) || (!(((rd_T43 l0_0 x16_1).f1) == ((rd_T43 l1_0 x16_1).f1)) || (!(((rd_T43 l0_0 x16_1).f2) == ((rd_T43 l1_0 x16_1).f2)) || (!(((rd_T43 l0_0 x16_1).f3) == ((rd_T43 l1_0 x16_1).f3)))))) = false := by simpa using c13
                  clear c13
                  have H' := Aside0.mk H
                  clear H
                  have hnb17 := NB130_131.out
                  have hnc17 := NB131_130.out
                  have hcz18_0 : wr.cell? ⟨gb130, 0, none⟩ = some (.slice A0_0 l0_0.length c0_0) := (blk_cell BK130.out 0).trans rfl
                  have hfz18_0 := blk_frozen BK130.out 0
                  have p132 : 0 ≤ (x16_1 : Int) := of_decide_eq_true (by first | (with_reducible assumption) | assumption)
                  have q132 : x16_1 < (l0_0.length : Int) := of_decide_eq_true (by first | (with_reducible assumption) | assumption)
                  obtain ⟨ad132, e132, hx132_0, hx132_1, hx132_2, hx132_3⟩ := at_T43 HR0_0.out x16_1 p132 q132
                  cases e132
                  replace hx132_0 := (HB.out.cell (World.block_lt_of_cell? w _ hx132_0)).trans hx132_0
                  replace hx132_1 := (HB.out.cell (World.block_lt_of_cell? w _ hx132_1)).trans hx132_1
                  replace hx132_2 := (HB.out.cell (World.block_lt_of_cell? w _ hx132_2)).trans hx132_2
                  replace hx132_3 := (HB.out.cell (World.block_lt_of_cell? w _ hx132_3)).trans hx132_3
                  replace p132 := eq_true p132
                  replace q132 := eq_true q132
                  have hcz19_0 : wr.cell? ⟨gb131, 0, none⟩ = some (.slice A1_0 l1_0.length c1_0) := (blk_cell BK131.out 0).trans rfl
                  have hfz19_0 := blk_frozen BK131.out 0
                  have p133 : 0 ≤ (x16_1 : Int) := of_decide_eq_true (by first | (with_reducible assumption) | assumption)
                  have q133 : x16_1 < (l1_0.length : Int) := of_decide_eq_true (by first | (with_reducible assumption) | assumption)
                  obtain ⟨ad133, e133, hx133_0, hx133_1, hx133_2, hx133_3⟩ := at_T43 HR1_0.out x16_1 p133 q133
                  cases e133
                  replace hx133_0 := (HB.out.cell (World.block_lt_of_cell? w _ hx133_0)).trans hx133_0
                  replace hx133_1 := (HB.out.cell (World.block_lt_of_cell? w _ hx133_1)).trans hx133_1
                  replace hx133_2 := (HB.out.cell (World.block_lt_of_cell? w _ hx133_2)).trans hx133_2
                  replace hx133_3 := (HB.out.cell (World.block_lt_of_cell? w _ hx133_3)).trans hx133_3
                  replace p133 := eq_true p133
                  replace q133 := eq_true q133
                  go_wp2
                  repeat (go_quiet (fail); try go_wp2)
                  go_roundg k1
                  case measure => have := HK1.out; omega
                  case rel => exact ⟨(wrap64 (x16_1 + 1)), (by first | rfl | (simp; done) | (simp [*]; done)), H', ⟨by have := HK1.out; omega⟩, ⟨by (with_reducible repeat (first | refine blk_drewN ?_ _ | refine blk_drew ?_ | refine blk_alloc ?_ _)); exact BK130.out⟩, ⟨by (with_reducible repeat (first | refine blk_drewN ?_ _ | refine blk_drew ?_ | refine blk_alloc ?_ _)); exact BK131.out⟩, ⟨by repeat (first | (with_reducible first | exact HB.out | apply below_alloc | apply pw_below_drewN | apply below_drew1 | refine below_set ?_ GE130.out | refine below_set ?_ GE131.out) | exact HB.out)⟩⟩
              · rw [if_neg c12] at H
                exact absurd H (by simp)
            · rw [if_neg c11] at H
              exact absurd H (by simp)
          · rw [if_neg c10] at H
            exact absurd H (by simp)
        · rw [if_neg c9] at H
          have c9b0 : decide (x16_1 < (l0_0.length : Int)) = false := decide_eq_false c9
          clear c9
          obtain rfl := Option.some.inj H
          go_wp2
          repeat (go_quiet (fail); try go_wp2)
          go_ret
          exact ⟨by first | rfl | (simp [errW_none, errW_some] <;> rfl) | (simp [*, errW_none, errW_some] <;> rfl), by repeat (first | (with_reducible first | exact HB.out | apply below_alloc | apply pw_below_drewN | apply below_drew1 | refine below_set ?_ GE130.out | refine below_set ?_ GE131.out) | exact HB.out)⟩
  · rw [if_neg c3] at H
    have c3b0 : ((l0_0.length : Int) == (l1_0.length : Int)) = false := beq_eq_false_iff_ne.mpr c3
    have c3b1 : ((l0_0.length : Int) != (l1_0.length : Int)) = true := bne_iff_ne.mpr c3
    have c3b2 : (l0_0.length == l1_0.length) = false := by first | simpa using c3 | (simp at c3 ⊢; omega)
    obtain rfl := Option.some.inj H
    go_enter Tryd.func9, Tryd.ntmps9
    go_wp2_with (first | ((with_reducible refine gate_dst (N := 2) rfl ?_); refine box_event ?hg (N := 2) ?hd (cs := #[.slice A0_0 l0_0.length c0_0]) (t := 24) ?hr ?_; (case hd => rfl); (case hg => rfl); (case hr => first | (go_simp; done) | (go_simp; rfl)); intro gb130 hg w20 hbox hb; have n0_ := Aside0.mk (below_step (by repeat (first | (with_reducible first | exact HB.out | apply below_alloc | apply pw_below_drewN | apply below_drew1) | exact HB.out)) hb); have n1_ := Aside0.mk (hbox); have n2_ := Aside0.mk ((by rw [hg]; exact (below_size (by repeat (first | (with_reducible first | exact HB.out | apply below_alloc | apply pw_below_drewN | apply below_drew1) | exact HB.out))) : w.heap.size ≤ gb130)); have n3_ := Aside0.mk ((by rw [hg]; exact (below_size (by repeat (first | (with_reducible first | exact HB.out | apply below_alloc | apply pw_below_drewN | apply below_drew1) | exact HB.out))) : w.heap.size ≤ gb130)); clear HB; have HB := n0_; have BK130 := n1_; have GW130 := n2_; have GE130 := n3_; clear n0_ n1_ n2_ n3_; clear hb hbox hg) | ((with_reducible refine gate_dst (N := 3) rfl ?_); refine box_event ?hg (N := 3) ?hd (cs := #[.slice A1_0 l1_0.length c1_0]) (t := 24) ?hr ?_; (case hd => rfl); (case hg => rfl); (case hr => first | (go_simp; done) | (go_simp; rfl)); intro gb131 hg w21 hbox hb; have n0_ := Aside0.mk (blk_below (g := gb130) (o := .cells #[.slice A0_0 l0_0.length c0_0] 24 (0, 0)) (by (with_reducible repeat (first | refine blk_drewN ?_ _ | refine blk_drew ?_ | refine blk_alloc ?_ _)); exact BK130.out) hb); have n1_ := Aside0.mk (below_step (by repeat (first | (with_reducible first | exact HB.out | apply below_alloc | apply pw_below_drewN | apply below_drew1 | refine below_set ?_ GE130.out) | exact HB.out)) hb); have n2_ := Aside0.mk (hbox); have n3_ := Aside0.mk ((by rw [hg]; exact (below_size (by repeat (first | (with_reducible first | exact HB.out | apply below_alloc | apply pw_below_drewN | apply below_drew1 | refine below_set ?_ GE130.out) | exact HB.out))) : w.heap.size ≤ gb131)); have n4_ := Aside0.mk ((by rw [hg]; exact (below_size (by repeat (first | (with_reducible first | exact HB.out | apply below_alloc | apply pw_below_drewN | apply below_drew1 | refine below_set ?_ GE130.out) | exact HB.out))) : w.heap.size ≤ gb131)); have n5_ := Aside0.mk ((by rw [hg]; exact Nat.ne_of_lt (blk_lt (g := gb130) (o := .cells #[.slice A0_0 l0_0.length c0_0] 24 (0, 0)) (by (with_reducible repeat (first | refine blk_drewN ?_ _ | refine blk_drew ?_ | refine blk_alloc ?_ _)); exact BK130.out)) : gb130 ≠ gb131)); have n6_ := Aside0.mk ((by rw [hg]; exact Nat.ne_of_gt (blk_lt (g := gb130) (o := .cells #[.slice A0_0 l0_0.length c0_0] 24 (0, 0)) (by (with_reducible repeat (first | refine blk_drewN ?_ _ | refine blk_drew ?_ | refine blk_alloc ?_ _)); exact BK130.out)) : gb131 ≠ gb130)); clear BK130; clear HB; have BK130 := n0_; have HB := n1_; have BK131 := n2_; have GW131 := n3_; have GE131 := n4_; have NB130_131 := n5_; have NB131_130 := n6_; clear n0_ n1_ n2_ n3_ n4_ n5_ n6_; clear hb hbox hg; have hnb22 := NB130_131.out; have hnc22 := NB131_130.out; have hcz23_0 : w21.cell? ⟨gb130, 0, none⟩ = some (.slice A0_0 l0_0.length c0_0) := (blk_cell BK130.out 0).trans rfl; have hfz23_0 := blk_frozen BK130.out 0; have hcz24_0 : w21.cell? ⟨gb131, 0, none⟩ = some (.slice A1_0 l1_0.length c1_0) := (blk_cell BK131.out 0).trans rfl; have hfz24_0 := blk_frozen BK131.out 0))
    repeat (go_quiet (first | ((with_reducible refine gate_dst (N := 2) rfl ?_); refine box_event ?hg (N := 2) ?hd (cs := #[.slice A0_0 l0_0.length c0_0]) (t := 24) ?hr ?_; (case hd => rfl); (case hg => rfl); (case hr => first | (go_simp; done) | (go_simp; rfl)); intro gb130 hg w20 hbox hb; have n0_ := Aside0.mk (below_step (by repeat (first | (with_reducible first | exact HB.out | apply below_alloc | apply pw_below_drewN | apply below_drew1) | exact HB.out)) hb); have n1_ := Aside0.mk (hbox); have n2_ := Aside0.mk ((by rw [hg]; exact (below_size (by repeat (first | (with_reducible first | exact HB.out | apply below_alloc | apply pw_below_drewN | apply below_drew1) | exact HB.out))) : w.heap.size ≤ gb130)); have n3_ := Aside0.mk ((by rw [hg]; exact (below_size (by repeat (first | (with_reducible first | exact HB.out | apply below_alloc | apply pw_below_drewN | apply below_drew1) | exact HB.out))) : w.heap.size ≤ gb130)); clear HB; have HB := n0_; have BK130 := n1_; have GW130 := n2_; have GE130 := n3_; clear n0_ n1_ n2_ n3_; clear hb hbox hg) | ((with_reducible refine gate_dst (N := 3) rfl ?_); refine box_event ?hg (N := 3) ?hd (cs := #[.slice A1_0 l1_0.length c1_0]) (t := 24) ?hr ?_; (case hd => rfl); (case hg => rfl); (case hr => first | (go_simp; done) | (go_simp; rfl)); intro gb131 hg w21 hbox hb; have n0_ := Aside0.mk (blk_below (g := gb130) (o := .cells #[.slice A0_0 l0_0.length c0_0] 24 (0, 0)) (by (with_reducible repeat (first | refine blk_drewN ?_ _ | refine blk_drew ?_ | refine blk_alloc ?_ _)); exact BK130.out) hb); have n1_ := Aside0.mk (below_step (by repeat (first | (with_reducible first | exact HB.out | apply below_alloc | apply pw_below_drewN | apply below_drew1 | refine below_set ?_ GE130.out) | exact HB.out)) hb); have n2_ := Aside0.mk (hbox); have n3_ := Aside0.mk ((by rw [hg]; exact (below_size (by repeat (first | (with_reducible first | exact HB.out | apply below_alloc | apply pw_below_drewN | apply below_drew1 | refine below_set ?_ GE130.out) | exact HB.out))) : w.heap.size ≤ gb131)); have n4_ := Aside0.mk ((by rw [hg]; exact (below_size (by repeat (first | (with_reducible first | exact HB.out | apply below_alloc | apply pw_below_drewN | apply below_drew1 | refine below_set ?_ GE130.out) | exact HB.out))) : w.heap.size ≤ gb131)); have n5_ := Aside0.mk ((by rw [hg]; exact Nat.ne_of_lt (blk_lt (g := gb130) (o := .cells #[.slice A0_0 l0_0.length c0_0] 24 (0, 0)) (by (with_reducible repeat (first | refine blk_drewN ?_ _ | refine blk_drew ?_ | refine blk_alloc ?_ _)); exact BK130.out)) : gb130 ≠ gb131)); have n6_ := Aside0.mk ((by rw [hg]; exact Nat.ne_of_gt (blk_lt (g := gb130) (o := .cells #[.slice A0_0 l0_0.length c0_0] 24 (0, 0)) (by (with_reducible repeat (first | refine blk_drewN ?_ _ | refine blk_drew ?_ | refine blk_alloc ?_ _)); exact BK130.out)) : gb131 ≠ gb130)); clear BK130; clear HB; have BK130 := n0_; have HB := n1_; have BK131 := n2_; have GW131 := n3_; have GE131 := n4_; have NB130_131 := n5_; have NB131_130 := n6_; clear n0_ n1_ n2_ n3_ n4_ n5_ n6_; clear hb hbox hg; have hnb22 := NB130_131.out; have hnc22 := NB131_130.out; have hcz23_0 : w21.cell? ⟨gb130, 0, none⟩ = some (.slice A0_0 l0_0.length c0_0) := (blk_cell BK130.out 0).trans rfl; have hfz23_0 := blk_frozen BK130.out 0; have hcz24_0 : w21.cell? ⟨gb131, 0, none⟩ = some (.slice A1_0 l1_0.length c1_0) := (blk_cell BK131.out 0).trans rfl; have hfz24_0 := blk_frozen BK131.out 0)); try go_wp2_with (first | ((with_reducible refine gate_dst (N := 2) rfl ?_); refine box_event ?hg (N := 2) ?hd (cs := #[.slice A0_0 l0_0.length c0_0]) (t := 24) ?hr ?_; (case hd => rfl); (case hg => rfl); (case hr => first | (go_simp; done) | (go_simp; rfl)); intro gb130 hg w20 hbox hb; have n0_ := Aside0.mk (below_step (by repeat (first | (with_reducible first | exact HB.out | apply below_alloc | apply pw_below_drewN | apply below_drew1) | exact HB.out)) hb); have n1_ := Aside0.mk (hbox); have n2_ := Aside0.mk ((by rw [hg]; exact (below_size (by repeat (first | (with_reducible first | exact HB.out | apply below_alloc | apply pw_below_drewN | apply below_drew1) | exact HB.out))) : w.heap.size ≤ gb130)); have n3_ := Aside0.mk ((by rw [hg]; exact (below_size (by repeat (first | (with_reducible first | exact HB.out | apply below_alloc | apply pw_below_drewN | apply below_drew1) | exact HB.out))) : w.heap.size ≤ gb130)); clear HB; have HB := n0_; have BK130 := n1_; have GW130 := n2_; have GE130 := n3_; clear n0_ n1_ n2_ n3_; clear hb hbox hg) | ((with_reducible refine gate_dst (N := 3) rfl ?_); refine box_event ?hg (N := 3) ?hd (cs := #[.slice A1_0 l1_0.length c1_0]) (t := 24) ?hr ?_; (case hd => rfl); (case hg => rfl); (case hr => first | (go_simp; done) | (go_simp; rfl)); intro gb131 hg w21 hbox hb; have n0_ := Aside0.mk (blk_below (g := gb130) (o := .cells #[.slice A0_0 l0_0.length c0_0] 24 (0, 0)) (by (with_reducible repeat (first | refine blk_drewN ?_ _ | refine blk_drew ?_ | refine blk_alloc ?_ _)); exact BK130.out) hb); have n1_ := Aside0.mk (below_step (by repeat (first | (with_reducible first | exact HB.out | apply below_alloc | apply pw_below_drewN | apply below_drew1 | refine below_set ?_ GE130.out) | exact HB.out)) hb); have n2_ := Aside0.mk (hbox); have n3_ := Aside0.mk ((by rw [hg]; exact (below_size (by repeat (first | (with_reducible first | exact HB.out | apply below_alloc | apply pw_below_drewN | apply below_drew1 | refine below_set ?_ GE130.out) | exact HB.out))) : w.heap.size ≤ gb131)); have n4_ := Aside0.mk ((by rw [hg]; exact (below_size (by repeat (first | (with_reducible first | exact HB.out | apply below_alloc | apply pw_below_drewN | apply below_drew1 | refine below_set ?_ GE130.out) | exact HB.out))) : w.heap.size ≤ gb131)); have n5_ := Aside0.mk ((by rw [hg]; exact Nat.ne_of_lt (blk_lt (g := gb130) (o := .cells #[.slice A0_0 l0_0.length c0_0] 24 (0, 0)) (by (with_reducible repeat (first | refine blk_drewN ?_ _ | refine blk_drew ?_ | refine blk_alloc ?_ _)); exact BK130.out)) : gb130 ≠ gb131)); have n6_ := Aside0.mk ((by rw [hg]; exact Nat.ne_of_gt (blk_lt (g := gb130) (o := .cells #[.slice A0_0 l0_0.length c0_0] 24 (0, 0)) (by (with_reducible repeat (first | refine blk_drewN ?_ _ | refine blk_drew ?_ | refine blk_alloc ?_ _)); exact BK130.out)) : gb131 ≠ gb130)); clear BK130; clear HB; have BK130 := n0_; have HB := n1_; have BK131 := n2_; have GW131 := n3_; have GE131 := n4_; have NB130_131 := n5_; have NB131_130 := n6_; clear n0_ n1_ n2_ n3_ n4_ n5_ n6_; clear hb hbox hg; have hnb22 := NB130_131.out; have hnc22 := NB131_130.out; have hcz23_0 : w21.cell? ⟨gb130, 0, none⟩ = some (.slice A0_0 l0_0.length c0_0) := (blk_cell BK130.out 0).trans rfl; have hfz23_0 := blk_frozen BK130.out 0; have hcz24_0 : w21.cell? ⟨gb131, 0, none⟩ = some (.slice A1_0 l1_0.length c1_0) := (blk_cell BK131.out 0).trans rfl; have hfz24_0 := blk_frozen BK131.out 0)))
    go_ret
    exact ⟨by first | rfl | (simp [errW_none, errW_some] <;> rfl) | (simp [*, errW_none, errW_some] <;> rfl), by repeat (first | (with_reducible first | exact HB.out | apply below_alloc | apply pw_below_drewN | apply below_drew1 | refine below_set ?_ GE130.out | refine below_set ?_ GE131.out) | exact HB.out)⟩

end Go.Proofs.YtodldpdnhcafpaaDoor.F

namespace Go.Proofs.YtodldpdnhcafpaaDoor.Q
open Go.RowKit Go.Proofs.YtodldpdnhcafpaaDoorW.PrintWords Go.Proofs.YtodldpdnhcafpaaDoorW.PrintLast Go.Proofs.YtodldpdnhcafpaaDoorW.PrintMore
open Go.Proofs.YtodldpdnhcafpaaDoor.F

theorem SameTree_loop (l : List S43) (hl : l.length ≤ 9223372036854775807) (d : Nat) : ∀ i, i ≤ l.length → l.length - i = d →
    Ev (fun k => monikerplain_SameTree.l0 k (l.length : Int) (i : Int) l l) true := by
  induction d with
  | zero =>
    intro i h1 h2
    refine ⟨1, fun n hn => ?_⟩
    obtain ⟨k, rfl⟩ : ∃ m, n = m + 1 := ⟨n - 1, by omega⟩
    simp only [monikerplain_SameTree.l0]
    rw [if_neg (by omega)]
  | succ d ih =>
    intro i h1 h2
    obtain ⟨K, hK⟩ := ih (i + 1) (by omega) (by omega)
    refine ⟨K + 1, fun n hn => ?_⟩
    obtain ⟨k, rfl⟩ : ∃ m, n = m + 1 := ⟨n - 1, by omega⟩
    simp only [monikerplain_SameTree.l0]
    rw [if_pos (by omega), if_pos (by omega), if_pos (by omega), if_pos (by omega), if_neg (by simp), show wrap64 ((i : Int) + 1) = ((i + 1 : Nat) : Int) by unfold wrap64; omega]
    exact hK k (by omega)
theorem SameTree_is (l : List S43) (hl : l.length ≤ 9223372036854775807) : Ev (fun k => monikerplain_SameTree.f k l l) true := by
  unfold monikerplain_SameTree.f
  simp only [↓reduceIte]
  exact SameTree_loop l hl l.length 0 (by omega) (by omega)
end Go.Proofs.YtodldpdnhcafpaaDoor.Q

-- A text of this session's own program (wip/myprint.sh over a changed print tool): functions and their walks
namespace Go.Proofs.YtodldpdnhcafpaaDoor.F
open Go.RowKit Go.Proofs.YtodldpdnhcafpaaDoorW.PrintWords Go.Proofs.YtodldpdnhcafpaaDoorW.PrintLast Go.Proofs.YtodldpdnhcafpaaDoorW.PrintMore
attribute [local go_sem] max2_int min2_int max_two min_two max_three min_three max_four min_four   -- for this text's walks alone
set_option linter.unusedVariables false
set_option linter.unusedSimpArgs false

/-! ### stringslite_HasPrefix: function 57 -/
def stringslite_HasPrefix.f (a0 : ByteArray) (a1 : ByteArray) : Option (Bool) := if (a0.size : Int) ≥ (a1.size : Int) then (if 0 ≤ (a1.size : Int) then (if (a1.size : Int) ≤ (a0.size : Int) then (some ((a0.extract 0 ((a1.size : Int) : Int).toNat).toList == a1.toList)) else (none)) else (none)) else (some false)
set_option maxHeartbeats 8000000 in
set_option maxRecDepth 100000 in
theorem stringslite_HasPrefix.calls (a0 : ByteArray) (a1 : ByteArray) (r : Bool) (w : World) (h : stringslite_HasPrefix.f a0 a1 = some r) :
    Calls Tryd.prog 57 #[.string a0, .string a1] w fun e w' => e = .returned (.bool r) ∧ Drawn0 w w' := by
  have H : (if (a0.size : Int) ≥ (a1.size : Int) then (if 0 ≤ (a1.size : Int) then (if (a1.size : Int) ≤ (a0.size : Int) then (some ((a0.extract 0 ((a1.size : Int) : Int).toNat).toList == a1.toList)) else (none)) else (none)) else (some false)) = some r := h
  clear h
  by_cases c3 : (a0.size : Int) ≥ (a1.size : Int)
  · rw [if_pos c3] at H
    have c3b0 : decide ((a1.size : Int) ≤ (a0.size : Int)) = true := decide_eq_true c3
    have c3b1 : decide (a1.size ≤ a0.size) = true := decide_eq_true (Int.ofNat_le.mp c3)
    clear c3
    by_cases c4 : 0 ≤ (a1.size : Int)
    · rw [if_pos c4] at H
      have c4b0 := eq_true c4
      have c4b1 : decide (0 ≤ (a1.size : Int)) = true := decide_eq_true c4
      clear c4
      by_cases c5 : (a1.size : Int) ≤ (a0.size : Int)
      · rw [if_pos c5] at H
        have c5b0 := eq_true c5
        have c5b1 : decide ((a1.size : Int) ≤ (a0.size : Int)) = true := decide_eq_true c5
        clear c5
        obtain rfl := Option.some.inj H
        go_enter Tryd.func57, Tryd.ntmps57
        go_wp2
        go_ret
        exact ⟨by first | rfl | (simp; done) | (simp [*]; done), by repeat (first | exact Drawn0.refl _ | apply Drawn0.step)⟩
      · rw [if_neg c5] at H
        exact absurd H (by simp)
    · rw [if_neg c4] at H
      exact absurd H (by simp)
  · rw [if_neg c3] at H
    have c3b0 : decide ((a1.size : Int) ≤ (a0.size : Int)) = false := decide_eq_false c3
    have c3b1 : decide (a1.size ≤ a0.size) = false := decide_eq_false (fun h => c3 (Int.ofNat_le.mpr h))
    clear c3
    obtain rfl := Option.some.inj H
    go_enter Tryd.func57, Tryd.ntmps57
    go_wp2
    go_ret
    exact ⟨by first | rfl | (simp; done) | (simp [*]; done), by repeat (first | exact Drawn0.refl _ | apply Drawn0.step)⟩

end Go.Proofs.YtodldpdnhcafpaaDoor.F

-- A text of this session's own program (wip/myprint.sh over a changed print tool): functions and their walks
namespace Go.Proofs.YtodldpdnhcafpaaDoor.F
open Go.RowKit Go.Proofs.YtodldpdnhcafpaaDoorW.PrintWords Go.Proofs.YtodldpdnhcafpaaDoorW.PrintLast Go.Proofs.YtodldpdnhcafpaaDoorW.PrintMore
attribute [local go_sem] max2_int min2_int max_two min_two max_three min_three max_four min_four   -- for this text's walks alone
set_option linter.unusedVariables false
set_option linter.unusedSimpArgs false

/-! ### strings_HasPrefix: function 36 -/
def strings_HasPrefix.f (a0 : ByteArray) (a1 : ByteArray) : Option (Bool) := (stringslite_HasPrefix.f a0 a1).bind fun t106 => (some t106)
set_option maxHeartbeats 8000000 in
set_option maxRecDepth 100000 in
theorem strings_HasPrefix.calls (a0 : ByteArray) (a1 : ByteArray) (r : Bool) (w : World) (h : strings_HasPrefix.f a0 a1 = some r) :
    Calls Tryd.prog 36 #[.string a0, .string a1] w fun e w' => e = .returned (.bool r) ∧ Drawn0 w w' := by
  have H : ((stringslite_HasPrefix.f a0 a1).bind fun t106 => (some t106)) = some r := h
  clear h
  replace H := Option.bind_eq_some_iff.mp H
  obtain ⟨t106, A30, H⟩ := H
  replace H : (some t106) = some r := H
  have A3 := Aside0.mk A30
  clear A30
  obtain rfl := Option.some.inj H
  go_enter Tryd.func36, Tryd.ntmps36
  go_wp2_with (first | ((with_reducible refine gate_callee (f := 57) rfl ?_); refine goesL_ (some 7) rfl rfl Tryd.func57 (by kernel_rfl) rfl #[.string a0, .string a1] rfl (by (try simp only [List.map_toArray, List.map_cons, List.map_nil]); first | done | rfl | (simp only [List.length_drop, List.length_take]; rfl)) ?_; (with_reducible refine (stringslite_HasPrefix.calls a0 a1 t106 _ A3.out).mono ?_); rintro e w' ⟨rfl, ⟨nd, rfl⟩⟩; refine ⟨_, rfl, ?_⟩))
  go_ret
  exact ⟨by first | rfl | (simp; done) | (simp [*]; done), by repeat (first | exact Drawn0.refl _ | apply Drawn0.step)⟩

end Go.Proofs.YtodldpdnhcafpaaDoor.F

-- Draw's closure 'fault' (34): its contract
namespace Go.Proofs.YtodldpdnhcafpaaDoor.F
open Go.RowKit Go.Proofs.YtodldpdnhcafpaaDoorW.PrintWords Go.Proofs.YtodldpdnhcafpaaDoorW.PrintLast Go.Proofs.YtodldpdnhcafpaaDoorW.PrintMore
set_option linter.unusedVariables false
set_option linter.unusedSimpArgs false
def tree_fault.f (k : Nat) (a : Int) : Option ((List (S43)) × Int × Int) := some ([], 40, a)
theorem tree_fault.calls (k : Nat) (a : Int) (r1 : List S43) (r2 r3 : Int) (w : World) (h : tree_fault.f k a = some (r1, r2, r3)) (b : Nat) (hb : w.heap[b]? = some (.cells #[.int .i64 a] 3 (0, 0))) :
    Calls Tryd.prog 34 #[.pointer (some ⟨b, 0, none⟩)] w fun e w' => ∃ v0_ : Value, e = .returned (.tuple #[.agg #[v0_], .int .i64 r2, .int .i64 r3]) ∧ Kd.R k43 43 w' w.heap.size (fun _ => True) v0_ r1 ∧ Below w.heap.size w w' := by
  unfold tree_fault.f at h
  simp only [Option.some.injEq, Prod.mk.injEq] at h
  obtain ⟨rfl, rfl, rfl⟩ := h
  have hc0 : w.cell? ⟨b, 0, none⟩ = some (.int .i64 a) := (blk_cell hb 0).trans rfl
  have hu24 := Tryd.underlying24
  have HB := Aside0.mk (Below.refl w.heap.size w)
  go_enter Tryd.func34, Tryd.ntmps34
  go_wp2
  have hc1 : (w.alloc (.cells #[.slice none 0 0] 24)).cell? ⟨b, 0, none⟩ = some (.int .i64 a) := (World.cell?_of_block (a := ⟨b, 0, none⟩) (Below.heap_alloc w _ b (World.block_lt_of_cell? _ _ hc0))).trans hc0
  go_region
  go_wp2
  have hbk : (w.alloc (.cells #[.slice none 0 0] 24)).drew.heap[w.heap.size]? = some (.cells #[.slice none 0 0] 24 (0, 0)) := by
    refine blk_drew ?_
    exact blk_new w _
  refine bodyPost_ret (results_ctt rfl _ _ w.heap.size 24 #[.slice none 0 0] (0, 0) _ rfl hbk Tryd.underlying24 rfl (by kernel_rfl)) rfl ?_
  exact ⟨_, rfl, Kd.R_nil _ _ _ _ _, by repeat (first | exact HB.out | apply below_alloc | apply pw_below_drewN | apply below_drew1)⟩
end Go.Proofs.YtodldpdnhcafpaaDoor.F

-- tree.Draw: printed out of an altered dump (an int in memory told as a struct of one field; the closure's call as a plain one), mended by wip/mkdraw.py
namespace Go.Proofs.YtodldpdnhcafpaaDoor.F
open Go.RowKit Go.Proofs.YtodldpdnhcafpaaDoorW.PrintWords Go.Proofs.YtodldpdnhcafpaaDoorW.PrintLast Go.Proofs.YtodldpdnhcafpaaDoorW.PrintMore
attribute [local go_sem] max2_int min2_int max_two min_two max_three min_three max_four min_four   -- for this text's walks alone
set_option linter.unusedVariables false
set_option linter.unusedSimpArgs false

/-! ### tree_Draw: function 7 -/
mutual
def tree_Draw.l0 : Nat → ByteArray → List Int → List (S43) → Int → Option ((List (S43)) × Int × Int)
  | 0, _, _, _, _ => none
  | k + 1, x0, x6, x109000, x110000 => if 0 ≤ x110000 then (if x110000 ≤ (x0.size : Int) then ((tree_longest.f k (x0.extract (x110000 : Int).toNat x0.size)).bind fun bt110 => (if bt110.1 < 0 then ((tree_fault.f k (wrap64 (x110000 + bt110.2))).bind fun bt112 => (some (bt112.1, bt112.2.1, bt112.2.2))) else (if x109000.length < 4398046511104 then ((some (x109000 ++ [(⟨(bt110.1) % 256, 0, 0, 1⟩ : S43)] : List (S43))).bind fun y117 => (if 0 ≤ (wrap64 (x110000 + bt110.2)) then (if (wrap64 (x110000 + bt110.2)) ≤ (x0.size : Int) then ((strings_HasPrefix.f (x0.extract ((wrap64 (x110000 + bt110.2)) : Int).toNat x0.size) (⟨#[40]⟩ : ByteArray)).bind fun t120 => (if t120 = true then (if x6.length < 17592186044416 then (tree_Draw.l0 k x0 (x6 ++ [wrap64 ((y117.length : Int) - 1)]) y117 (wrap64 ((wrap64 (x110000 + bt110.2)) + 1))) else (none)) else (tree_Draw.l1 k x0 x6 y117 (wrap64 (x110000 + bt110.2))))) else (none)) else (none))) else (none)))) else (none)) else (none)
def tree_Draw.j2 : Nat → ByteArray → List Int → List (S43) → Int → Option ((List (S43)) × Int × Int)
  | 0, _, _, _, _ => none
  | k + 1, x0, x6, x109000, x110000 => if (x6.length : Int) = 0 then (tree_Draw.j3 k x0 x6 (x110000 == (x0.size : Int)) x109000 x110000) else (tree_Draw.j3 k x0 x6 false x109000 x110000)
def tree_Draw.j3 : Nat → ByteArray → List Int → Bool → List (S43) → Int → Option ((List (S43)) × Int × Int)
  | 0, _, _, _, _, _ => none
  | k + 1, x0, x6, x83, x109000, x110000 => if x83 = true then (some (x109000, 0, 0)) else (if (x6.length : Int) = 0 then ((tree_fault.f k x110000).bind fun bt130 => (some (bt130.1, bt130.2.1, bt130.2.2))) else (if 0 ≤ x110000 then (if x110000 ≤ (x0.size : Int) then ((strings_HasPrefix.f (x0.extract (x110000 : Int).toNat x0.size) (⟨#[32]⟩ : ByteArray)).bind fun t135 => (if t135 = true then (tree_Draw.l0 k x0 x6 x109000 (wrap64 (x110000 + 1))) else ((tree_fault.f k x110000).bind fun bt136 => (some (bt136.1, bt136.2.1, bt136.2.2))))) else (none)) else (none)))
def tree_Draw.l1 : Nat → ByteArray → List Int → List (S43) → Int → Option ((List (S43)) × Int × Int)
  | 0, _, _, _, _ => none
  | k + 1, x0, x6, x109000, x110000 => if (x6.length : Int) > 0 then (if 0 ≤ x110000 then (if x110000 ≤ (x0.size : Int) then ((strings_HasPrefix.f (x0.extract (x110000 : Int).toNat x0.size) (⟨#[41]⟩ : ByteArray)).bind fun t124 => (if t124 = true then (if 0 ≤ (wrap64 ((x6.length : Int) - 1)) then (if (wrap64 ((x6.length : Int) - 1)) < (x6.length : Int) then (if 0 ≤ (rd x6 (wrap64 ((x6.length : Int) - 1))) then (if (rd x6 (wrap64 ((x6.length : Int) - 1))) < (x109000.length : Int) then (if (wrap64 ((x6.length : Int) - 1)) ≤ (x6.length : Int) then (tree_Draw.l1 k x0 (x6.take ((wrap64 ((x6.length : Int) - 1)) : Int).toNat) (x109000.set ((rd x6 (wrap64 ((x6.length : Int) - 1))) : Int).toNat (⟨(rd_T43 x109000 (rd x6 (wrap64 ((x6.length : Int) - 1)))).f0, (rd_T43 x109000 (rd x6 (wrap64 ((x6.length : Int) - 1)))).f1, (rd_T43 x109000 (rd x6 (wrap64 ((x6.length : Int) - 1)))).f2, wrap64 ((x109000.length : Int) - (rd x6 (wrap64 ((x6.length : Int) - 1))))⟩ : S43)) (wrap64 (x110000 + 1))) else (none)) else (none)) else (none)) else (none)) else (none)) else (tree_Draw.j2 k x0 x6 x109000 x110000))) else (none)) else (none)) else (tree_Draw.j2 k x0 x6 x109000 x110000)
end
def tree_Draw.f (k : Nat) (a0 : ByteArray) : Option ((List (S43)) × Int × Int) := tree_Draw.l0 k a0 ([] : List Int) ([] : List (S43)) 0
set_option maxHeartbeats 8000000 in
set_option maxRecDepth 100000 in
theorem tree_Draw.calls (k : Nat) (a0 : ByteArray) (r1 : List (S43)) (r2 : Int) (r3 : Int) (w : World) (h : tree_Draw.f k a0 = some (r1, r2, r3)) (hs_ : SG w) :
    Calls Tryd.prog 7 #[.string a0] w fun e w' => ∃ v0_ : Value, e = .returned (.tuple #[.agg #[v0_], .int .i64 r2, .int .i64 r3]) ∧ Kd.R k43 43 w' w.heap.size (fun _ => True) v0_ r1 ∧ Below w.heap.size w w' := by
  have hu24 := Tryd.underlying24
  have hu43 := Tryd.underlying43
  have HRG0 := Aside0.mk hs_.g0
  have HRG1 := Aside0.mk hs_.g1
  have HSG := Aside0.mk hs_
  clear hs_
  have HB := Aside0.mk (Below.refl w.heap.size w)
  have H : (tree_Draw.l0 k a0 ([] : List Int) ([] : List (S43)) 0) = some (r1, r2, r3) := h
  clear h
  have H' := Aside0.mk H
  clear H
  go_enter Tryd.func7, Tryd.ntmps7
  go_wp2_with (first | ((with_reducible refine gate_dst (N := 2) rfl ?_); (try (refine gate_guard (by rfl) ?_; dsimp only)); refine box_event ?hg (N := 2) ?hd (cs := #[.slice none 0 0]) (t := 24) ?hr ?_; (case hd => rfl); (case hg => rfl); (case hr => first | (go_simp; done) | (go_simp; rfl)); intro gb107 hg w2 hbox hb; have n0_ := Aside0.mk (below_step (by repeat (first | (with_reducible first | exact HB.out | apply below_alloc | apply pw_below_drewN | apply below_drew1) | exact HB.out)) hb); have n1_ := Aside0.mk (hbox); have n2_ := Aside0.mk ((by rw [hg]; exact (below_size (by repeat (first | (with_reducible first | exact HB.out | apply below_alloc | apply pw_below_drewN | apply below_drew1) | exact HB.out))) : w.heap.size ≤ gb107)); have n3_ := Aside0.mk ((by rw [hg]; exact (below_size (by repeat (first | (with_reducible first | exact HB.out | apply below_alloc | apply pw_below_drewN | apply below_drew1) | exact HB.out))) : w.heap.size ≤ gb107)); clear HB; have HB := n0_; have BK107 := n1_; have GW107 := n2_; have GE107 := n3_; clear n0_ n1_ n2_ n3_; clear hb hbox hg) | ((with_reducible refine gate_dst (N := 5) rfl ?_); (try (refine gate_guard (by rfl) ?_; dsimp only)); refine box_event ?hg (N := 5) ?hd (cs := #[.slice none 0 0]) (t := 24) ?hr ?_; (case hd => rfl); (case hg => rfl); (case hr => first | (go_simp; done) | (go_simp; rfl)); intro gb108 hg w3 hbox hb; have n0_ := Aside0.mk (blk_below (g := gb107) (o := .cells #[.slice none 0 0] 24 (0, 0)) (by (with_reducible repeat (first | refine blk_drewN ?_ _ | refine blk_drew ?_ | refine blk_alloc ?_ _)); exact BK107.out) hb); have n1_ := Aside0.mk (below_step (by repeat (first | (with_reducible first | exact HB.out | apply below_alloc | apply pw_below_drewN | apply below_drew1 | refine below_set ?_ GE107.out) | exact HB.out)) hb); have n2_ := Aside0.mk (hbox); have n3_ := Aside0.mk ((by rw [hg]; exact (below_size (by repeat (first | (with_reducible first | exact HB.out | apply below_alloc | apply pw_below_drewN | apply below_drew1 | refine below_set ?_ GE107.out) | exact HB.out))) : w.heap.size ≤ gb108)); have n4_ := Aside0.mk ((by rw [hg]; exact (below_size (by repeat (first | (with_reducible first | exact HB.out | apply below_alloc | apply pw_below_drewN | apply below_drew1 | refine below_set ?_ GE107.out) | exact HB.out))) : w.heap.size ≤ gb108)); have n5_ := Aside0.mk ((by rw [hg]; exact Nat.ne_of_lt (blk_lt (g := gb107) (o := .cells #[.slice none 0 0] 24 (0, 0)) (by (with_reducible repeat (first | refine blk_drewN ?_ _ | refine blk_drew ?_ | refine blk_alloc ?_ _)); exact BK107.out)) : gb107 ≠ gb108)); have n6_ := Aside0.mk ((by rw [hg]; exact Nat.ne_of_gt (blk_lt (g := gb107) (o := .cells #[.slice none 0 0] 24 (0, 0)) (by (with_reducible repeat (first | refine blk_drewN ?_ _ | refine blk_drew ?_ | refine blk_alloc ?_ _)); exact BK107.out)) : gb108 ≠ gb107)); clear BK107; clear HB; have BK107 := n0_; have HB := n1_; have BK108 := n2_; have GW108 := n3_; have GE108 := n4_; have NB107_108 := n5_; have NB108_107 := n6_; clear n0_ n1_ n2_ n3_ n4_ n5_ n6_; clear hb hbox hg) | ((with_reducible refine gate_dst (N := 7) rfl ?_); (try (refine gate_guard (by rfl) ?_; dsimp only)); refine box_event ?hg (N := 7) ?hd (cs := #[.int .i64 0]) (t := 3) ?hr ?_; (case hd => rfl); (case hg => rfl); (case hr => first | (go_simp; done) | (go_simp; rfl)); intro gb109 hg w4 hbox hb; have n0_ := Aside0.mk (blk_below (g := gb107) (o := .cells #[.slice none 0 0] 24 (0, 0)) (by (with_reducible repeat (first | refine blk_drewN ?_ _ | refine blk_drew ?_ | refine blk_alloc ?_ _)); exact BK107.out) hb); have n1_ := Aside0.mk (blk_below (g := gb108) (o := .cells #[.slice none 0 0] 24 (0, 0)) (by (with_reducible repeat (first | refine blk_drewN ?_ _ | refine blk_drew ?_ | refine blk_alloc ?_ _)); exact BK108.out) hb); have n2_ := Aside0.mk (below_step (by repeat (first | (with_reducible first | exact HB.out | apply below_alloc | apply pw_below_drewN | apply below_drew1 | refine below_set ?_ GE107.out | refine below_set ?_ GE108.out) | exact HB.out)) hb); have n3_ := Aside0.mk (hbox); have n4_ := Aside0.mk ((by rw [hg]; exact (below_size (by repeat (first | (with_reducible first | exact HB.out | apply below_alloc | apply pw_below_drewN | apply below_drew1 | refine below_set ?_ GE107.out | refine below_set ?_ GE108.out) | exact HB.out))) : w.heap.size ≤ gb109)); have n5_ := Aside0.mk ((by rw [hg]; exact (below_size (by repeat (first | (with_reducible first | exact HB.out | apply below_alloc | apply pw_below_drewN | apply below_drew1 | refine below_set ?_ GE107.out | refine below_set ?_ GE108.out) | exact HB.out))) : w.heap.size ≤ gb109)); have n6_ := Aside0.mk ((by rw [hg]; exact Nat.ne_of_lt (blk_lt (g := gb107) (o := .cells #[.slice none 0 0] 24 (0, 0)) (by (with_reducible repeat (first | refine blk_drewN ?_ _ | refine blk_drew ?_ | refine blk_alloc ?_ _)); exact BK107.out)) : gb107 ≠ gb109)); have n7_ := Aside0.mk ((by rw [hg]; exact Nat.ne_of_gt (blk_lt (g := gb107) (o := .cells #[.slice none 0 0] 24 (0, 0)) (by (with_reducible repeat (first | refine blk_drewN ?_ _ | refine blk_drew ?_ | refine blk_alloc ?_ _)); exact BK107.out)) : gb109 ≠ gb107)); have n8_ := Aside0.mk ((by rw [hg]; exact Nat.ne_of_lt (blk_lt (g := gb108) (o := .cells #[.slice none 0 0] 24 (0, 0)) (by (with_reducible repeat (first | refine blk_drewN ?_ _ | refine blk_drew ?_ | refine blk_alloc ?_ _)); exact BK108.out)) : gb108 ≠ gb109)); have n9_ := Aside0.mk ((by rw [hg]; exact Nat.ne_of_gt (blk_lt (g := gb108) (o := .cells #[.slice none 0 0] 24 (0, 0)) (by (with_reducible repeat (first | refine blk_drewN ?_ _ | refine blk_drew ?_ | refine blk_alloc ?_ _)); exact BK108.out)) : gb109 ≠ gb108)); clear BK107; clear BK108; clear HB; have BK107 := n0_; have BK108 := n1_; have HB := n2_; have BK109 := n3_; have GW109 := n4_; have GE109 := n5_; have NB107_109 := n6_; have NB109_107 := n7_; have NB108_109 := n8_; have NB109_108 := n9_; clear n0_ n1_ n2_ n3_ n4_ n5_ n6_ n7_ n8_ n9_; clear hb hbox hg; have hnb5 := NB109_107.out; have hnc5 := NB107_109.out; have hnb6 := NB109_108.out; have hnc6 := NB108_109.out; have hcz7_0 : w4.cell? ⟨gb109, 0, none⟩ = some (.int .i64 0) := (blk_cell BK109.out 0).trans rfl; have hfz7_0 := blk_frozen BK109.out 0))
  go_loopg [6] k (fun kq v6 w' => ∃ (x6_1 : List Int) (x109000_1 : List (S43)) (x110000_1 : Int) (u109000 : Value), Aside0 (tree_Draw.l0 kq a0 x6_1 x109000_1 x110000_1 = some (r1, r2, r3)) ∧ Aside0 (kq ≤ k) ∧ Aside0 (Kd.R (Kd.int .i64) 3 w' w.heap.size (fun k_ => k_ ≠ gb109) v6 x6_1) ∧ Aside0 (Kd.R k43 43 w' w.heap.size (fun _ => True) u109000 x109000_1) ∧ Aside0 (w'.heap[gb107]? = some (.cells #[(.slice none 0 0)] 24 (0, 0))) ∧ Aside0 (w'.heap[gb108]? = some (.cells #[u109000] 24 (0, 0))) ∧ Aside0 (w'.heap[gb109]? = some (.cells #[.int .i64 x110000_1] 3 (0, 0))) ∧ Aside0 (Below w.heap.size w w'))
  case atStart => exact ⟨(([] : List Int)), (([] : List (S43))), (0), (.slice none 0 0), H', ⟨Nat.le_refl _⟩, ⟨by first | exact Kd.R_nil _ _ _ _ _ | exact Kd.N_nil _ _ _ _ _ | exact Kd.V_nil _ _ _ _ _ | exact Kd.Q_nil _ _ _ _ _ | exact Kd.S_nil _ _ _ _ _⟩, ⟨by first | exact Kd.R_nil _ _ _ _ _ | exact Kd.N_nil _ _ _ _ _ | exact Kd.V_nil _ _ _ _ _ | exact Kd.Q_nil _ _ _ _ _ | exact Kd.S_nil _ _ _ _ _⟩, ⟨by (with_reducible repeat (first | refine blk_drewN ?_ _ | refine blk_drew ?_ | refine blk_alloc ?_ _)); refine blk_far ?_ NB107_109.out _; (with_reducible repeat (first | refine blk_drewN ?_ _ | refine blk_drew ?_ | refine blk_alloc ?_ _)); exact BK107.out⟩, ⟨by (with_reducible repeat (first | refine blk_drewN ?_ _ | refine blk_drew ?_ | refine blk_alloc ?_ _)); refine blk_far ?_ NB108_109.out _; (with_reducible repeat (first | refine blk_drewN ?_ _ | refine blk_drew ?_ | refine blk_alloc ?_ _)); exact BK108.out⟩, ⟨by (with_reducible repeat (first | refine blk_drewN ?_ _ | refine blk_drew ?_ | refine blk_alloc ?_ _)); refine blk_put (cs := #[.int .i64 0]) ?_ 0 _ rfl; (with_reducible repeat (first | refine blk_drewN ?_ _ | refine blk_drew ?_ | refine blk_alloc ?_ _)); exact BK109.out⟩, ⟨by repeat (first | (with_reducible first | exact HB.out | apply below_alloc | apply pw_below_drewN | apply below_drew1 | refine below_set ?_ GE107.out | refine below_set ?_ GE108.out | refine below_set ?_ GE109.out) | exact HB.out)⟩⟩
  case round =>
    clear H'
    try clear p2
    try clear c5
    try clear c6
    try clear c7
    try clear hcz7_0
    try clear hfz7_0
    obtain ⟨x6_1, x109000_1, x110000_1, u109000, HA, HK1, HO_6, HO_109000, BK107, BK108, BK109, HB⟩ := hrel
    cases gk with
    | zero => exact absurd HA.out (by simp [tree_Draw.l0])
    | succ k1 =>
      have H := HA.out
      clear HA
      simp only [tree_Draw.l0] at H
      by_cases c8 : 0 ≤ x110000_1
      · rw [if_pos c8] at H
        have c8b0 := eq_true c8
        have c8b1 : decide (0 ≤ x110000_1) = true := decide_eq_true c8
        clear c8
        by_cases c9 : x110000_1 ≤ (a0.size : Int)
        · rw [if_pos c9] at H
          have c9b0 := eq_true c9
          have c9b1 : decide (x110000_1 ≤ (a0.size : Int)) = true := decide_eq_true c9
          clear c9
          replace H := Option.bind_eq_some_iff.mp H
          obtain ⟨⟨t110, t111⟩, A100, H⟩ := H
          replace H : (if t110 < 0 then ((tree_fault.f k1 (wrap64 (x110000_1 + t111))).bind fun bt112 => (some (bt112.1, bt112.2.1, bt112.2.2))) else (if x109000_1.length < 4398046511104 then ((some (x109000_1 ++ [(⟨(t110) % 256, 0, 0, 1⟩ : S43)] : List (S43))).bind fun y117 => (if 0 ≤ (wrap64 (x110000_1 + t111)) then (if (wrap64 (x110000_1 + t111)) ≤ (a0.size : Int) then ((strings_HasPrefix.f (a0.extract ((wrap64 (x110000_1 + t111)) : Int).toNat a0.size) (⟨#[40]⟩ : ByteArray)).bind fun t120 => (if t120 = true then (if x6_1.length < 17592186044416 then (tree_Draw.l0 k1 a0 (x6_1 ++ [wrap64 ((y117.length : Int) - 1)]) y117 (wrap64 ((wrap64 (x110000_1 + t111)) + 1))) else (none)) else (tree_Draw.l1 k1 a0 x6_1 y117 (wrap64 (x110000_1 + t111))))) else (none)) else (none))) else (none))) = some (r1, r2, r3) := H
          have A10 := Aside0.mk A100
          clear A100
          by_cases c11 : t110 < 0
          · rw [if_pos c11] at H
            have c11b0 : decide (t110 < 0) = true := decide_eq_true c11
            clear c11
            replace H := Option.bind_eq_some_iff.mp H
            obtain ⟨⟨t112, t115, t116⟩, A120, H⟩ := H
            replace H : (some (t112, t115, t116)) = some (r1, r2, r3) := H
            have A12 := Aside0.mk A120
            clear A120
            simp only [Option.some.injEq, Prod.mk.injEq] at H
            obtain ⟨rfl, rfl, rfl⟩ := H
            have hnb13 := NB109_107.out
            have hnc13 := NB107_109.out
            have hnb14 := NB109_108.out
            have hnc14 := NB108_109.out
            have hcz15_0 : wr.cell? ⟨gb109, 0, none⟩ = some (.int .i64 x110000_1) := (blk_cell BK109.out 0).trans rfl
            have hfz15_0 := blk_frozen BK109.out 0
            have EG : ∀ args W, (callFunc 34 args).run Tryd.prog W = .ok (.enter 34 args) W := fun args W => enters_ Tryd.func34 (by kernel_rfl) rfl args W
            go_wp2_with (first | ((with_reducible refine gate_callee (f := 35) rfl ?_); refine goesL_ (some 17) rfl rfl Tryd.func35 (by kernel_rfl) rfl #[.string (a0.extract (x110000_1 : Int).toNat a0.size)] rfl (by (try simp only [List.map_toArray, List.map_cons, List.map_nil]); first | done | rfl | (simp only [List.length_drop, List.length_take]; rfl)) ?_; (with_reducible refine (tree_longest.calls k1 (a0.extract (x110000_1 : Int).toNat a0.size) t110 t111 _ A10.out (SG.below HSG.out (by repeat (first | (with_reducible first | exact HB.out | apply below_alloc | apply pw_below_drewN | apply below_drew1 | refine below_set ?_ GE107.out | refine below_set ?_ GE108.out | refine below_set ?_ GE109.out) | exact HB.out)))).mono ?_); rintro e w16 ⟨rfl, hb⟩; refine ⟨_, rfl, ?_⟩; have n0_ := Aside0.mk (Kd.R_below (by (with_reducible repeat (first | apply Kd.R_alloc | apply Kd.R_drewN | apply Kd.R_drew)); exact HO_6.out) hb); have n1_ := Aside0.mk (Kd.R_below (by (with_reducible repeat (first | apply Kd.R_alloc | apply Kd.R_drewN | apply Kd.R_drew)); exact HO_109000.out) hb); have n2_ := Aside0.mk (blk_below (g := gb107) (o := .cells #[.slice none 0 0] 24 (0, 0)) (by (with_reducible repeat (first | refine blk_drewN ?_ _ | refine blk_drew ?_ | refine blk_alloc ?_ _)); exact BK107.out) hb); have n3_ := Aside0.mk (blk_below (g := gb108) (o := .cells #[u109000] 24 (0, 0)) (by (with_reducible repeat (first | refine blk_drewN ?_ _ | refine blk_drew ?_ | refine blk_alloc ?_ _)); exact BK108.out) hb); have n4_ := Aside0.mk (blk_below (g := gb109) (o := .cells #[.int .i64 x110000_1] 3 (0, 0)) (by (with_reducible repeat (first | refine blk_drewN ?_ _ | refine blk_drew ?_ | refine blk_alloc ?_ _)); exact BK109.out) hb); have n5_ := Aside0.mk (below_step (by repeat (first | (with_reducible first | exact HB.out | apply below_alloc | apply pw_below_drewN | apply below_drew1 | refine below_set ?_ GE107.out | refine below_set ?_ GE108.out | refine below_set ?_ GE109.out) | exact HB.out)) hb); clear HO_6; clear HO_109000; clear BK107; clear BK108; clear BK109; clear HB; have HO_6 := n0_; have HO_109000 := n1_; have BK107 := n2_; have BK108 := n3_; have BK109 := n4_; have HB := n5_; clear n0_ n1_ n2_ n3_ n4_ n5_; (try clear hb); (try clear hb2); (try clear hk); (try clear hi); have hcz17_0 : w16.cell? ⟨gb109, 0, none⟩ = some (.int .i64 x110000_1) := (blk_cell BK109.out 0).trans rfl; have hfz17_0 := blk_frozen BK109.out 0))
            refine (tree_fault.calls k1 (wrap64 (x110000_1 + t111)) t112 t115 t116 _ A12.out gb109 (by (with_reducible repeat (first | refine blk_drewN ?_ _ | refine blk_drew ?_ | refine blk_alloc ?_ _)); refine blk_put (cs := #[.int .i64 x110000_1]) ?_ 0 _ rfl; (with_reducible repeat (first | refine blk_drewN ?_ _ | refine blk_drew ?_ | refine blk_alloc ?_ _)); exact BK109.out)).mono ?_
            rintro e w18 ⟨v113, rfl, ho0, hb⟩
            clear EG
            have n0_ := Aside0.mk (Kd.R_below (by (with_reducible repeat (first | apply Kd.R_alloc | apply Kd.R_drewN | apply Kd.R_drew)); exact (Kd.R_mono (Kd.R_far (p := ⟨gb109, 0, none⟩) (Kd.R_mono HO_6.out (fun k_ hk => (⟨hk, hk⟩ : _ ∧ k_ ≠ gb109))) (fun _ hk => hk.2) (.int .i64 (wrap64 (x110000_1 + t111)))) (fun _ h_ => h_.1))) hb)
            have n1_ := Aside0.mk (Kd.R_elder' (by (with_reducible repeat (first | apply Kd.R_alloc | apply Kd.R_drewN | apply Kd.R_drew)); exact (Kd.R_mono (Kd.R_far (p := ⟨gb109, 0, none⟩) (Kd.R_types HO_109000.out BK109.out (by decide)) (fun _ hk => hk.2) (.int .i64 (wrap64 (x110000_1 + t111)))) (fun _ h_ => h_.1))) (Kd.R_base ho0) hb)
            have n2_ := Aside0.mk (Kd.R_lower (Kd.R_new' ho0 (Kd.R_lt (by (with_reducible repeat (first | apply Kd.R_alloc | apply Kd.R_drewN | apply Kd.R_drew)); exact (Kd.R_mono (Kd.R_far (p := ⟨gb109, 0, none⟩) (Kd.R_types HO_109000.out BK109.out (by decide)) (fun _ hk => hk.2) (.int .i64 (wrap64 (x110000_1 + t111)))) (fun _ h_ => h_.1))))) (below_size (by repeat (first | (with_reducible first | exact HB.out | apply below_alloc | apply pw_below_drewN | apply below_drew1 | refine below_set ?_ GE107.out | refine below_set ?_ GE108.out | refine below_set ?_ GE109.out) | exact HB.out))))
            have n3_ := Aside0.mk (blk_below (g := gb107) (o := .cells #[.slice none 0 0] 24 (0, 0)) (by (with_reducible repeat (first | refine blk_drewN ?_ _ | refine blk_drew ?_ | refine blk_alloc ?_ _)); refine blk_far ?_ NB107_109.out _; (with_reducible repeat (first | refine blk_drewN ?_ _ | refine blk_drew ?_ | refine blk_alloc ?_ _)); exact BK107.out) hb)
            have n4_ := Aside0.mk (blk_below (g := gb108) (o := .cells #[u109000] 24 (0, 0)) (by (with_reducible repeat (first | refine blk_drewN ?_ _ | refine blk_drew ?_ | refine blk_alloc ?_ _)); refine blk_far ?_ NB108_109.out _; (with_reducible repeat (first | refine blk_drewN ?_ _ | refine blk_drew ?_ | refine blk_alloc ?_ _)); exact BK108.out) hb)
            have n5_ := Aside0.mk (blk_below (g := gb109) (o := .cells #[.int .i64 (wrap64 (x110000_1 + t111))] 3 (0, 0)) (by (with_reducible repeat (first | refine blk_drewN ?_ _ | refine blk_drew ?_ | refine blk_alloc ?_ _)); refine blk_put (cs := #[.int .i64 x110000_1]) ?_ 0 _ rfl; (with_reducible repeat (first | refine blk_drewN ?_ _ | refine blk_drew ?_ | refine blk_alloc ?_ _)); exact BK109.out) hb)
            have n6_ := Aside0.mk (below_step (by repeat (first | (with_reducible first | exact HB.out | apply below_alloc | apply pw_below_drewN | apply below_drew1 | refine below_set ?_ GE107.out | refine below_set ?_ GE108.out | refine below_set ?_ GE109.out) | exact HB.out)) hb)
            clear HO_6
            clear HO_109000
            clear BK107
            clear BK108
            clear BK109
            clear HB
            have HO_6 := n0_
            have HO_109000 := n1_
            have HO114 := n2_
            have BK107 := n3_
            have BK108 := n4_
            have BK109 := n5_
            have HB := n6_
            clear n0_ n1_ n2_ n3_ n4_ n5_ n6_
            (try clear hb)
            (try clear hb2)
            (try clear hk)
            (try clear hi)
            (try clear ho0)
            obtain ⟨Ao19, co19, eo19⟩ := Kd.R_slice HO114.out
            subst eo19
            have hnb20 := NB107_108.out
            have hnc20 := NB108_107.out
            have hcz21_0 : w18.cell? ⟨gb107, 0, none⟩ = some (.slice none 0 0) := (blk_cell BK107.out 0).trans rfl
            have hfz21_0 := blk_frozen BK107.out 0
            go_wp2
            refine bodyPost_ret (results_ctt rfl _ _ gb107 24 #[.slice Ao19 t112.length co19] (0, 0) _ rfl (by (with_reducible repeat (first | refine blk_drewN ?_ _ | refine blk_drew ?_ | refine blk_alloc ?_ _)); refine blk_put (cs := #[.slice none 0 0]) ?_ 0 _ rfl; (with_reducible repeat (first | refine blk_drewN ?_ _ | refine blk_drew ?_ | refine blk_alloc ?_ _)); exact BK107.out) Tryd.underlying24 rfl (by kernel_rfl)) rfl ?_
            exact ⟨_, by first | rfl | (simp [errW_none, errW_some] <;> rfl) | (simp [*, errW_none, errW_some] <;> rfl), by (with_reducible repeat (first | apply Kd.R_alloc | apply Kd.R_drewN | apply Kd.R_drew)); exact Kd.R_mono (Kd.R_far (p := ⟨gb107, 0, none⟩) (Kd.R_types HO114.out BK107.out (by decide)) (fun _ hk => hk.2) (.slice Ao19 t112.length co19)) (fun _ hk => trivial), by repeat (first | (with_reducible first | exact HB.out | apply below_alloc | apply pw_below_drewN | apply below_drew1 | refine below_set ?_ GE107.out | refine below_set ?_ GE108.out | refine below_set ?_ GE109.out) | exact HB.out)⟩
          · rw [if_neg c11] at H
            have c11b0 : decide (t110 < 0) = false := decide_eq_false c11
            clear c11
            by_cases c22 : x109000_1.length < 4398046511104
            · rw [if_pos c22] at H
              have LMc22 := Aside0.mk c22
              clear c22
              obtain ⟨y117, hy117⟩ : ∃ y_ : List (S43), y_ = (x109000_1 ++ [(⟨(t110) % 256, 0, 0, 1⟩ : S43)]) := ⟨_, rfl⟩
              replace H : (if 0 ≤ (wrap64 (x110000_1 + t111)) then (if (wrap64 (x110000_1 + t111)) ≤ (a0.size : Int) then ((strings_HasPrefix.f (a0.extract ((wrap64 (x110000_1 + t111)) : Int).toNat a0.size) (⟨#[40]⟩ : ByteArray)).bind fun t120 => (if t120 = true then (if x6_1.length < 17592186044416 then (tree_Draw.l0 k1 a0 (x6_1 ++ [wrap64 ((y117.length : Int) - 1)]) y117 (wrap64 ((wrap64 (x110000_1 + t111)) + 1))) else (none)) else (tree_Draw.l1 k1 a0 x6_1 y117 (wrap64 (x110000_1 + t111))))) else (none)) else (none)) = some (r1, r2, r3) := by first | (rw [hy117]; with_reducible exact H) | (have H2_ := (Option.bind_some _ _).symm.trans H; rw [hy117]; with_reducible exact H2_) | (have H2_ := (Option.bind_some _ _).symm.trans H; with_reducible exact H2_) | with_reducible exact H | (rw [hy117]; exact H) | exact H
              have Ny117 := Aside0.mk hy117
              clear hy117
              obtain ⟨ji23, hji23⟩ : ∃ j_ : Int, (wrap64 (x110000_1 + t111)) = j_ := ⟨_, rfl⟩
              replace H : (if 0 ≤ (ji23) then (if (ji23) ≤ (a0.size : Int) then ((strings_HasPrefix.f (a0.extract ((ji23) : Int).toNat a0.size) (⟨#[40]⟩ : ByteArray)).bind fun t120 => (if t120 = true then (if x6_1.length < 17592186044416 then (tree_Draw.l0 k1 a0 (x6_1 ++ [wrap64 ((y117.length : Int) - 1)]) y117 (wrap64 ((ji23) + 1))) else (none)) else (tree_Draw.l1 k1 a0 x6_1 y117 ji23))) else (none)) else (none)) = some (r1, r2, r3) := by first | (rw [hji23] at H; exact H) | (simp only [hji23] at H ⊢; exact H)
              (try rw [hji23] at A10)
              have hji23w : (IntKind.i64.wrap (x110000_1 + t111)) = ji23 := (i64_w _).trans hji23
              by_cases c24 : 0 ≤ (ji23)
              · rw [if_pos c24] at H
                have c24b0 := eq_true c24
                have c24b1 : decide (0 ≤ (ji23)) = true := decide_eq_true c24
                clear c24
                by_cases c25 : (ji23) ≤ (a0.size : Int)
                · rw [if_pos c25] at H
                  have c25b0 := eq_true c25
                  have c25b1 : decide ((ji23) ≤ (a0.size : Int)) = true := decide_eq_true c25
                  clear c25
                  replace H := Option.bind_eq_some_iff.mp H
                  obtain ⟨t120, A260, H⟩ := H
                  replace H : (if t120 = true then (if x6_1.length < 17592186044416 then (tree_Draw.l0 k1 a0 (x6_1 ++ [wrap64 ((y117.length : Int) - 1)]) y117 (wrap64 ((ji23) + 1))) else (none)) else (tree_Draw.l1 k1 a0 x6_1 y117 ji23)) = some (r1, r2, r3) := H
                  have A26 := Aside0.mk A260
                  clear A260
                  by_cases c27 : t120 = true
                  · subst c27
                    have H1 : (if x6_1.length < 17592186044416 then (tree_Draw.l0 k1 a0 (x6_1 ++ [wrap64 ((y117.length : Int) - 1)]) y117 (wrap64 ((ji23) + 1))) else (none)) = some (r1, r2, r3) := by rw [if_pos rfl] at H; exact H
                    clear H
                    have H := H1
                    clear H1
                    by_cases c28 : x6_1.length < 17592186044416
                    · rw [if_pos c28] at H
                      have LMc28 := Aside0.mk c28
                      clear c28
                      obtain ⟨y121, hy121⟩ : ∃ y_ : List Int, y_ = (x6_1 ++ [wrap64 ((y117.length : Int) - 1)]) := ⟨_, rfl⟩
                      replace H : (tree_Draw.l0 k1 a0 y121 y117 (wrap64 ((ji23) + 1))) = some (r1, r2, r3) := by first | (rw [hy121]; with_reducible exact H) | (have H2_ := (Option.bind_some _ _).symm.trans H; rw [hy121]; with_reducible exact H2_) | (have H2_ := (Option.bind_some _ _).symm.trans H; with_reducible exact H2_) | with_reducible exact H | (rw [hy121]; exact H) | exact H
                      have Ny121 := Aside0.mk hy121
                      clear hy121
                      have H' := Aside0.mk H
                      clear H
                      have hnb29 := NB109_107.out
                      have hnc29 := NB107_109.out
                      have hnb30 := NB109_108.out
                      have hnc30 := NB108_109.out
                      have hcz31_0 : wr.cell? ⟨gb109, 0, none⟩ = some (.int .i64 x110000_1) := (blk_cell BK109.out 0).trans rfl
                      have hfz31_0 := blk_frozen BK109.out 0
                      go_wp2_with (first | ((with_reducible refine gate_callee (f := 35) rfl ?_); refine goesL_ (some 17) rfl rfl Tryd.func35 (by kernel_rfl) rfl #[.string (a0.extract (x110000_1 : Int).toNat a0.size)] rfl (by (try simp only [List.map_toArray, List.map_cons, List.map_nil]); first | done | rfl | (simp only [List.length_drop, List.length_take]; rfl)) ?_; (with_reducible refine (tree_longest.calls k1 (a0.extract (x110000_1 : Int).toNat a0.size) t110 t111 _ A10.out (SG.below HSG.out (by repeat (first | (with_reducible first | exact HB.out | apply below_alloc | apply pw_below_drewN | apply below_drew1 | refine below_set ?_ GE107.out | refine below_set ?_ GE108.out | refine below_set ?_ GE109.out) | exact HB.out)))).mono ?_); rintro e w32 ⟨rfl, hb⟩; refine ⟨_, rfl, ?_⟩; have n0_ := Aside0.mk (Kd.R_below (by (with_reducible repeat (first | apply Kd.R_alloc | apply Kd.R_drewN | apply Kd.R_drew)); exact HO_6.out) hb); have n1_ := Aside0.mk (Kd.R_below (by (with_reducible repeat (first | apply Kd.R_alloc | apply Kd.R_drewN | apply Kd.R_drew)); exact HO_109000.out) hb); have n2_ := Aside0.mk (blk_below (g := gb107) (o := .cells #[.slice none 0 0] 24 (0, 0)) (by (with_reducible repeat (first | refine blk_drewN ?_ _ | refine blk_drew ?_ | refine blk_alloc ?_ _)); exact BK107.out) hb); have n3_ := Aside0.mk (blk_below (g := gb108) (o := .cells #[u109000] 24 (0, 0)) (by (with_reducible repeat (first | refine blk_drewN ?_ _ | refine blk_drew ?_ | refine blk_alloc ?_ _)); exact BK108.out) hb); have n4_ := Aside0.mk (blk_below (g := gb109) (o := .cells #[.int .i64 x110000_1] 3 (0, 0)) (by (with_reducible repeat (first | refine blk_drewN ?_ _ | refine blk_drew ?_ | refine blk_alloc ?_ _)); exact BK109.out) hb); have n5_ := Aside0.mk (below_step (by repeat (first | (with_reducible first | exact HB.out | apply below_alloc | apply pw_below_drewN | apply below_drew1 | refine below_set ?_ GE107.out | refine below_set ?_ GE108.out | refine below_set ?_ GE109.out) | exact HB.out)) hb); clear HO_6; clear HO_109000; clear BK107; clear BK108; clear BK109; clear HB; have HO_6 := n0_; have HO_109000 := n1_; have BK107 := n2_; have BK108 := n3_; have BK109 := n4_; have HB := n5_; clear n0_ n1_ n2_ n3_ n4_ n5_; (try clear hb); (try clear hb2); (try clear hk); (try clear hi); have hcz33_0 : w32.cell? ⟨gb109, 0, none⟩ = some (.int .i64 x110000_1) := (blk_cell BK109.out 0).trans rfl; have hfz33_0 := blk_frozen BK109.out 0; have hnb34 := NB108_107.out; have hnc34 := NB107_108.out; have hcz35_0 : w32.cell? ⟨gb108, 0, none⟩ = some (u109000) := (blk_cell BK108.out 0).trans rfl; have hfz35_0 := blk_frozen BK108.out 0) | ((with_reducible refine gate_builtin (b := .append) (xs := #[.tmp 31, .tmp 35]) rfl ?_); (try (refine gate_guard (by rfl) ?_; dsimp only)); at_builtin; refine Kd.R_append k43 (w0 := w) w.heap.size rfl (.tmp 31) (.tmp 35) 22 43 (.agg #[(.int .u8 0), (.int .i64 0), (.int .i64 0), (.int .i64 0)]) 32 rfl Tryd.underlying22 info43 rfl (by decide) (by omega) u109000 x109000_1 (⟨(t110) % 256, 0, 0, 1⟩ : S43) [.int .u8 ((t110) % 256), .int .i64 0, .int .i64 0, .int .i64 1] (fun _ => True) (fun _ => False) rfl (by first | (go_simp; done) | (go_simp; rfl)) ?aP (fun _ hk => hk.elim) ?aF ?aO ?aB ?aS ?aL ?_; (case aP => exact k43_mkM _ _ _ (⟨(t110) % 256, 0, 0, 1⟩ : S43)); (case aB => exact (by repeat (first | (with_reducible first | exact HB.out | apply below_alloc | apply pw_below_drewN | apply below_drew1 | refine below_set ?_ GE107.out | refine below_set ?_ GE108.out | refine below_set ?_ GE109.out) | exact HB.out))); (case aF => exact (fun _ _ => trivial)); (case aO => exact (by (with_reducible repeat (first | apply Kd.R_alloc | apply Kd.R_drewN | apply Kd.R_drew)); exact Kd.R_mono (Kd.R_far (p := ⟨gb109, 0, none⟩) (Kd.R_types HO_109000.out BK109.out (by decide)) (fun _ hk => hk.2) (.int .i64 ji23)) (fun _ hk => trivial))); (case aS => exact (below_size (by repeat (first | (with_reducible first | exact HB.out | apply below_alloc | apply pw_below_drewN | apply below_drew1 | refine below_set ?_ GE107.out | refine below_set ?_ GE108.out | refine below_set ?_ GE109.out) | exact HB.out)))); (case aL => have := LMc22.out; omega); intro v118 w36 ho hb hg hat; rw [← Ny117.out] at ho; have n0_ := Aside0.mk (Kd.R_over' (by (with_reducible repeat (first | apply Kd.R_alloc | apply Kd.R_drewN | apply Kd.R_drew)); exact (Kd.R_mono (Kd.R_far (p := ⟨gb109, 0, none⟩) (Kd.R_mono HO_6.out (fun k_ hk => (⟨hk, hk⟩ : _ ∧ k_ ≠ gb109))) (fun _ hk => hk.2) (.int .i64 ji23)) (fun _ h_ => h_.1))) (Kd.R_typed (by (with_reducible repeat (first | apply Kd.R_alloc | apply Kd.R_drewN | apply Kd.R_drew)); exact (Kd.R_mono (Kd.R_far (p := ⟨gb109, 0, none⟩) (Kd.R_types HO_109000.out BK109.out (by decide)) (fun _ hk => hk.2) (.int .i64 ji23)) (fun _ h_ => h_.1)))) (by decide) hg); have n1_ := Aside0.mk (blk_grown (g := gb107) (o := .cells #[.slice none 0 0] 24 (0, 0)) (by (with_reducible repeat (first | refine blk_drewN ?_ _ | refine blk_drew ?_ | refine blk_alloc ?_ _)); refine blk_far ?_ NB107_109.out _; (with_reducible repeat (first | refine blk_drewN ?_ _ | refine blk_drew ?_ | refine blk_alloc ?_ _)); exact BK107.out) hg (Kd.R_ne HO_109000.out BK107.out (by decide))); have n2_ := Aside0.mk (blk_grown (g := gb108) (o := .cells #[u109000] 24 (0, 0)) (by (with_reducible repeat (first | refine blk_drewN ?_ _ | refine blk_drew ?_ | refine blk_alloc ?_ _)); refine blk_far ?_ NB108_109.out _; (with_reducible repeat (first | refine blk_drewN ?_ _ | refine blk_drew ?_ | refine blk_alloc ?_ _)); exact BK108.out) hg (Kd.R_ne HO_109000.out BK108.out (by decide))); have n3_ := Aside0.mk (blk_grown (g := gb109) (o := .cells #[.int .i64 ji23] 3 (0, 0)) (by (with_reducible repeat (first | refine blk_drewN ?_ _ | refine blk_drew ?_ | refine blk_alloc ?_ _)); refine blk_put (cs := #[.int .i64 x110000_1]) ?_ 0 _ rfl; (with_reducible repeat (first | refine blk_drewN ?_ _ | refine blk_drew ?_ | refine blk_alloc ?_ _)); exact BK109.out) hg (Kd.R_ne HO_109000.out BK109.out (by decide))); have n4_ := Aside0.mk (hb); have n5_ := Aside0.mk (ho); clear HO_6; clear BK107; clear BK108; clear BK109; clear HB; clear HO_109000; have HO_6 := n0_; have BK107 := n1_; have BK108 := n2_; have BK109 := n3_; have HB := n4_; have HO119 := n5_; clear n0_ n1_ n2_ n3_ n4_ n5_; clear ho hb hg hat; obtain ⟨Ao37, co37, eo37⟩ := Kd.R_slice HO119.out; subst eo37; have hcz38_0 : w36.cell? ⟨gb108, 0, none⟩ = some (u109000) := (blk_cell BK108.out 0).trans rfl; have hfz38_0 := blk_frozen BK108.out 0; have hcz39_0 : w36.cell? ⟨gb109, 0, none⟩ = some (.int .i64 ji23) := (blk_cell BK109.out 0).trans rfl; have hfz39_0 := blk_frozen BK109.out 0) | ((with_reducible refine gate_callee (f := 36) rfl ?_); refine goesL_ (some 41) rfl rfl Tryd.func36 (by kernel_rfl) rfl #[.string (a0.extract ((ji23) : Int).toNat a0.size), .string (⟨#[40]⟩ : ByteArray)] rfl (by (try simp only [List.map_toArray, List.map_cons, List.map_nil]); first | done | (simp only [hji23]; rfl) | rfl | (simp only [List.length_drop, List.length_take]; rfl)) ?_; (with_reducible refine (strings_HasPrefix.calls (a0.extract ((ji23) : Int).toNat a0.size) (⟨#[40]⟩ : ByteArray) true _ A26.out).mono ?_); rintro e w' ⟨rfl, ⟨nd, rfl⟩⟩; refine ⟨_, rfl, ?_⟩) | ((with_reducible refine gate_builtin (b := .append) (xs := #[.tmp 42, .tmp 47]) rfl ?_); (try (refine gate_guard (by rfl) ?_; dsimp only)); at_builtin; refine Kd.R_append (Kd.int .i64) (w0 := w) w.heap.size rfl (.tmp 42) (.tmp 47) 55 3 (.int .i64 0) 8 rfl Tryd.underlying55 info3 rfl (by decide) (by omega) u6 x6_1 (wrap64 ((y117.length : Int) - 1)) [.int .i64 (wrap64 ((y117.length : Int) - 1))] (fun k_ => k_ ≠ gb109) (fun _ => False) rfl (by first | (go_simp; done) | (go_simp; rfl)) ?aP (fun _ hk => hk.elim) ?aF ?aO ?aB ?aS ?aL ?_; (case aP => exact rfl); (case aB => exact (by repeat (first | (with_reducible first | exact HB.out | apply below_alloc | apply pw_below_drewN | apply below_drew1 | refine below_set ?_ GE107.out | refine below_set ?_ GE108.out | refine below_set ?_ GE109.out) | exact HB.out))); (case aF => exact (fun k_ hk => Kd.freshB (g := gb109) (o := .cells #[.int .i64 ji23] 3 (0, 0)) (by (with_reducible repeat (first | refine blk_drewN ?_ _ | refine blk_drew ?_ | refine blk_alloc ?_ _)); refine blk_far ?_ NB109_108.out _; (with_reducible repeat (first | refine blk_drewN ?_ _ | refine blk_drew ?_ | refine blk_alloc ?_ _)); exact BK109.out) k_ hk)); (case aO => exact (by (with_reducible repeat (first | apply Kd.R_alloc | apply Kd.R_drewN | apply Kd.R_drew)); exact Kd.R_mono (Kd.R_far (p := ⟨gb108, 0, none⟩) (Kd.R_types HO_6.out BK108.out (by decide)) (fun _ hk => hk.2) (.slice Ao37 y117.length co37)) (fun _ hk => hk.1))); (case aS => exact (below_size (by repeat (first | (with_reducible first | exact HB.out | apply below_alloc | apply pw_below_drewN | apply below_drew1 | refine below_set ?_ GE107.out | refine below_set ?_ GE108.out | refine below_set ?_ GE109.out) | exact HB.out)))); (case aL => have := LMc28.out; omega); intro v122 w40 ho hb hg hat; rw [← Ny121.out] at ho; have n0_ := Aside0.mk (blk_grown (g := gb107) (o := .cells #[.slice none 0 0] 24 (0, 0)) (by (with_reducible repeat (first | refine blk_drewN ?_ _ | refine blk_drew ?_ | refine blk_alloc ?_ _)); refine blk_far ?_ NB107_108.out _; (with_reducible repeat (first | refine blk_drewN ?_ _ | refine blk_drew ?_ | refine blk_alloc ?_ _)); exact BK107.out) hg (Kd.R_ne HO_6.out BK107.out (by decide))); have n1_ := Aside0.mk (blk_grown (g := gb108) (o := .cells #[.slice Ao37 y117.length co37] 24 (0, 0)) (by (with_reducible repeat (first | refine blk_drewN ?_ _ | refine blk_drew ?_ | refine blk_alloc ?_ _)); refine blk_put (cs := #[u109000]) ?_ 0 _ rfl; (with_reducible repeat (first | refine blk_drewN ?_ _ | refine blk_drew ?_ | refine blk_alloc ?_ _)); exact BK108.out) hg (Kd.R_ne HO_6.out BK108.out (by decide))); have n2_ := Aside0.mk (blk_grown (g := gb109) (o := .cells #[.int .i64 ji23] 3 (0, 0)) (by (with_reducible repeat (first | refine blk_drewN ?_ _ | refine blk_drew ?_ | refine blk_alloc ?_ _)); refine blk_far ?_ NB109_108.out _; (with_reducible repeat (first | refine blk_drewN ?_ _ | refine blk_drew ?_ | refine blk_alloc ?_ _)); exact BK109.out) hg (Kd.R_away HO_6.out (fun _ hk => hk))); have n3_ := Aside0.mk (Kd.R_over' (by (with_reducible repeat (first | apply Kd.R_alloc | apply Kd.R_drewN | apply Kd.R_drew)); exact (Kd.R_mono (Kd.R_far (p := ⟨gb108, 0, none⟩) (Kd.R_types HO119.out BK108.out (by decide)) (fun _ hk => hk.2) (.slice Ao37 y117.length co37)) (fun _ h_ => h_.1))) (Kd.R_typed (by (with_reducible repeat (first | apply Kd.R_alloc | apply Kd.R_drewN | apply Kd.R_drew)); exact (Kd.R_mono (Kd.R_far (p := ⟨gb108, 0, none⟩) (Kd.R_types HO_6.out BK108.out (by decide)) (fun _ hk => hk.2) (.slice Ao37 y117.length co37)) (fun _ h_ => h_.1)))) (by decide) hg); have n4_ := Aside0.mk (hb); have n5_ := Aside0.mk (ho); clear BK107; clear BK108; clear BK109; clear HO119; clear HB; clear HO_6; have BK107 := n0_; have BK108 := n1_; have BK109 := n2_; have HO119 := n3_; have HB := n4_; have HO123 := n5_; clear n0_ n1_ n2_ n3_ n4_ n5_; clear ho hb hg hat; have hcz41_0 : w40.cell? ⟨gb109, 0, none⟩ = some (.int .i64 ji23) := (blk_cell BK109.out 0).trans rfl; have hfz41_0 := blk_frozen BK109.out 0))
                      go_roundg k1
                      case measure => have := HK1.out; omega
                      case rel => exact ⟨(y121), (y117), (wrap64 ((ji23) + 1)), (.slice Ao37 y117.length co37), H', ⟨by have := HK1.out; omega⟩, ⟨by (with_reducible repeat (first | apply Kd.R_alloc | apply Kd.R_drewN | apply Kd.R_drew)); exact Kd.R_mono (Kd.R_far (p := ⟨gb109, 0, none⟩) (Kd.R_mono HO123.out (fun k_ hk => (⟨hk, hk⟩ : _ ∧ k_ ≠ gb109))) (fun _ hk => hk.2) (.int .i64 (wrap64 ((ji23) + 1)))) (fun _ hk => hk.1)⟩, ⟨by (with_reducible repeat (first | apply Kd.R_alloc | apply Kd.R_drewN | apply Kd.R_drew)); exact Kd.R_mono (Kd.R_far (p := ⟨gb109, 0, none⟩) (Kd.R_types HO119.out BK109.out (by decide)) (fun _ hk => hk.2) (.int .i64 (wrap64 ((ji23) + 1)))) (fun _ hk => trivial)⟩, ⟨by (with_reducible repeat (first | refine blk_drewN ?_ _ | refine blk_drew ?_ | refine blk_alloc ?_ _)); refine blk_far ?_ NB107_109.out _; (with_reducible repeat (first | refine blk_drewN ?_ _ | refine blk_drew ?_ | refine blk_alloc ?_ _)); exact BK107.out⟩, ⟨by (with_reducible repeat (first | refine blk_drewN ?_ _ | refine blk_drew ?_ | refine blk_alloc ?_ _)); refine blk_far ?_ NB108_109.out _; (with_reducible repeat (first | refine blk_drewN ?_ _ | refine blk_drew ?_ | refine blk_alloc ?_ _)); exact BK108.out⟩, ⟨by (with_reducible repeat (first | refine blk_drewN ?_ _ | refine blk_drew ?_ | refine blk_alloc ?_ _)); refine blk_put (cs := #[.int .i64 ji23]) ?_ 0 _ rfl; (with_reducible repeat (first | refine blk_drewN ?_ _ | refine blk_drew ?_ | refine blk_alloc ?_ _)); exact BK109.out⟩, ⟨by repeat (first | (with_reducible first | exact HB.out | apply below_alloc | apply pw_below_drewN | apply below_drew1 | refine below_set ?_ GE107.out | refine below_set ?_ GE108.out | refine below_set ?_ GE109.out) | exact HB.out)⟩⟩
                    · rw [if_neg c28] at H
                      exact absurd H (by simp)
                  · replace c27 := Bool.eq_false_iff.mpr c27
                    subst c27
                    have H1 : (tree_Draw.l1 k1 a0 x6_1 y117 ji23) = some (r1, r2, r3) := by rw [if_neg (show ¬ (false = true) by decide)] at H; exact H
                    clear H
                    have H := H1
                    clear H1
                    have HC42 := Aside0.mk H
                    clear H
                    have hnb43 := NB109_107.out
                    have hnc43 := NB107_109.out
                    have hnb44 := NB109_108.out
                    have hnc44 := NB108_109.out
                    have hcz45_0 : wr.cell? ⟨gb109, 0, none⟩ = some (.int .i64 x110000_1) := (blk_cell BK109.out 0).trans rfl
                    have hfz45_0 := blk_frozen BK109.out 0
                    go_upto_block 2 with (first | ((with_reducible refine gate_callee (f := 35) rfl ?_); refine goesL_ (some 17) rfl rfl Tryd.func35 (by kernel_rfl) rfl #[.string (a0.extract (x110000_1 : Int).toNat a0.size)] rfl (by (try simp only [List.map_toArray, List.map_cons, List.map_nil]); first | done | rfl | (simp only [List.length_drop, List.length_take]; rfl)) ?_; (with_reducible refine (tree_longest.calls k1 (a0.extract (x110000_1 : Int).toNat a0.size) t110 t111 _ A10.out (SG.below HSG.out (by repeat (first | (with_reducible first | exact HB.out | apply below_alloc | apply pw_below_drewN | apply below_drew1 | refine below_set ?_ GE107.out | refine below_set ?_ GE108.out | refine below_set ?_ GE109.out) | exact HB.out)))).mono ?_); rintro e w46 ⟨rfl, hb⟩; refine ⟨_, rfl, ?_⟩; have n0_ := Aside0.mk (Kd.R_below (by (with_reducible repeat (first | apply Kd.R_alloc | apply Kd.R_drewN | apply Kd.R_drew)); exact HO_6.out) hb); have n1_ := Aside0.mk (Kd.R_below (by (with_reducible repeat (first | apply Kd.R_alloc | apply Kd.R_drewN | apply Kd.R_drew)); exact HO_109000.out) hb); have n2_ := Aside0.mk (blk_below (g := gb107) (o := .cells #[.slice none 0 0] 24 (0, 0)) (by (with_reducible repeat (first | refine blk_drewN ?_ _ | refine blk_drew ?_ | refine blk_alloc ?_ _)); exact BK107.out) hb); have n3_ := Aside0.mk (blk_below (g := gb108) (o := .cells #[u109000] 24 (0, 0)) (by (with_reducible repeat (first | refine blk_drewN ?_ _ | refine blk_drew ?_ | refine blk_alloc ?_ _)); exact BK108.out) hb); have n4_ := Aside0.mk (blk_below (g := gb109) (o := .cells #[.int .i64 x110000_1] 3 (0, 0)) (by (with_reducible repeat (first | refine blk_drewN ?_ _ | refine blk_drew ?_ | refine blk_alloc ?_ _)); exact BK109.out) hb); have n5_ := Aside0.mk (below_step (by repeat (first | (with_reducible first | exact HB.out | apply below_alloc | apply pw_below_drewN | apply below_drew1 | refine below_set ?_ GE107.out | refine below_set ?_ GE108.out | refine below_set ?_ GE109.out) | exact HB.out)) hb); clear HO_6; clear HO_109000; clear BK107; clear BK108; clear BK109; clear HB; have HO_6 := n0_; have HO_109000 := n1_; have BK107 := n2_; have BK108 := n3_; have BK109 := n4_; have HB := n5_; clear n0_ n1_ n2_ n3_ n4_ n5_; (try clear hb); (try clear hb2); (try clear hk); (try clear hi); have hcz47_0 : w46.cell? ⟨gb109, 0, none⟩ = some (.int .i64 x110000_1) := (blk_cell BK109.out 0).trans rfl; have hfz47_0 := blk_frozen BK109.out 0; have hnb48 := NB108_107.out; have hnc48 := NB107_108.out; have hcz49_0 : w46.cell? ⟨gb108, 0, none⟩ = some (u109000) := (blk_cell BK108.out 0).trans rfl; have hfz49_0 := blk_frozen BK108.out 0) | ((with_reducible refine gate_builtin (b := .append) (xs := #[.tmp 31, .tmp 35]) rfl ?_); (try (refine gate_guard (by rfl) ?_; dsimp only)); at_builtin; refine Kd.R_append k43 (w0 := w) w.heap.size rfl (.tmp 31) (.tmp 35) 22 43 (.agg #[(.int .u8 0), (.int .i64 0), (.int .i64 0), (.int .i64 0)]) 32 rfl Tryd.underlying22 info43 rfl (by decide) (by omega) u109000 x109000_1 (⟨(t110) % 256, 0, 0, 1⟩ : S43) [.int .u8 ((t110) % 256), .int .i64 0, .int .i64 0, .int .i64 1] (fun _ => True) (fun _ => False) rfl (by first | (go_simp; done) | (go_simp; rfl)) ?aP (fun _ hk => hk.elim) ?aF ?aO ?aB ?aS ?aL ?_; (case aP => exact k43_mkM _ _ _ (⟨(t110) % 256, 0, 0, 1⟩ : S43)); (case aB => exact (by repeat (first | (with_reducible first | exact HB.out | apply below_alloc | apply pw_below_drewN | apply below_drew1 | refine below_set ?_ GE107.out | refine below_set ?_ GE108.out | refine below_set ?_ GE109.out) | exact HB.out))); (case aF => exact (fun _ _ => trivial)); (case aO => exact (by (with_reducible repeat (first | apply Kd.R_alloc | apply Kd.R_drewN | apply Kd.R_drew)); exact Kd.R_mono (Kd.R_far (p := ⟨gb109, 0, none⟩) (Kd.R_types HO_109000.out BK109.out (by decide)) (fun _ hk => hk.2) (.int .i64 ji23)) (fun _ hk => trivial))); (case aS => exact (below_size (by repeat (first | (with_reducible first | exact HB.out | apply below_alloc | apply pw_below_drewN | apply below_drew1 | refine below_set ?_ GE107.out | refine below_set ?_ GE108.out | refine below_set ?_ GE109.out) | exact HB.out)))); (case aL => have := LMc22.out; omega); intro v118 w50 ho hb hg hat; rw [← Ny117.out] at ho; have n0_ := Aside0.mk (Kd.R_over' (by (with_reducible repeat (first | apply Kd.R_alloc | apply Kd.R_drewN | apply Kd.R_drew)); exact (Kd.R_mono (Kd.R_far (p := ⟨gb109, 0, none⟩) (Kd.R_mono HO_6.out (fun k_ hk => (⟨hk, hk⟩ : _ ∧ k_ ≠ gb109))) (fun _ hk => hk.2) (.int .i64 ji23)) (fun _ h_ => h_.1))) (Kd.R_typed (by (with_reducible repeat (first | apply Kd.R_alloc | apply Kd.R_drewN | apply Kd.R_drew)); exact (Kd.R_mono (Kd.R_far (p := ⟨gb109, 0, none⟩) (Kd.R_types HO_109000.out BK109.out (by decide)) (fun _ hk => hk.2) (.int .i64 ji23)) (fun _ h_ => h_.1)))) (by decide) hg); have n1_ := Aside0.mk (blk_grown (g := gb107) (o := .cells #[.slice none 0 0] 24 (0, 0)) (by (with_reducible repeat (first | refine blk_drewN ?_ _ | refine blk_drew ?_ | refine blk_alloc ?_ _)); refine blk_far ?_ NB107_109.out _; (with_reducible repeat (first | refine blk_drewN ?_ _ | refine blk_drew ?_ | refine blk_alloc ?_ _)); exact BK107.out) hg (Kd.R_ne HO_109000.out BK107.out (by decide))); have n2_ := Aside0.mk (blk_grown (g := gb108) (o := .cells #[u109000] 24 (0, 0)) (by (with_reducible repeat (first | refine blk_drewN ?_ _ | refine blk_drew ?_ | refine blk_alloc ?_ _)); refine blk_far ?_ NB108_109.out _; (with_reducible repeat (first | refine blk_drewN ?_ _ | refine blk_drew ?_ | refine blk_alloc ?_ _)); exact BK108.out) hg (Kd.R_ne HO_109000.out BK108.out (by decide))); have n3_ := Aside0.mk (blk_grown (g := gb109) (o := .cells #[.int .i64 ji23] 3 (0, 0)) (by (with_reducible repeat (first | refine blk_drewN ?_ _ | refine blk_drew ?_ | refine blk_alloc ?_ _)); refine blk_put (cs := #[.int .i64 x110000_1]) ?_ 0 _ rfl; (with_reducible repeat (first | refine blk_drewN ?_ _ | refine blk_drew ?_ | refine blk_alloc ?_ _)); exact BK109.out) hg (Kd.R_ne HO_109000.out BK109.out (by decide))); have n4_ := Aside0.mk (hb); have n5_ := Aside0.mk (ho); clear HO_6; clear BK107; clear BK108; clear BK109; clear HB; clear HO_109000; have HO_6 := n0_; have BK107 := n1_; have BK108 := n2_; have BK109 := n3_; have HB := n4_; have HO119 := n5_; clear n0_ n1_ n2_ n3_ n4_ n5_; clear ho hb hg hat; obtain ⟨Ao51, co51, eo51⟩ := Kd.R_slice HO119.out; subst eo51; have hcz52_0 : w50.cell? ⟨gb108, 0, none⟩ = some (u109000) := (blk_cell BK108.out 0).trans rfl; have hfz52_0 := blk_frozen BK108.out 0; have hcz53_0 : w50.cell? ⟨gb109, 0, none⟩ = some (.int .i64 ji23) := (blk_cell BK109.out 0).trans rfl; have hfz53_0 := blk_frozen BK109.out 0) | ((with_reducible refine gate_callee (f := 36) rfl ?_); refine goesL_ (some 41) rfl rfl Tryd.func36 (by kernel_rfl) rfl #[.string (a0.extract ((ji23) : Int).toNat a0.size), .string (⟨#[40]⟩ : ByteArray)] rfl (by (try simp only [List.map_toArray, List.map_cons, List.map_nil]); first | done | (simp only [hji23]; rfl) | rfl | (simp only [List.length_drop, List.length_take]; rfl)) ?_; (with_reducible refine (strings_HasPrefix.calls (a0.extract ((ji23) : Int).toNat a0.size) (⟨#[40]⟩ : ByteArray) false _ A26.out).mono ?_); rintro e w' ⟨rfl, ⟨nd, rfl⟩⟩; refine ⟨_, rfl, ?_⟩))
                    (try simp only [Act.put, List.setIfInBounds_toArray, List.set_cons_zero, List.set_cons_succ])
                    go_cut [6] (fun v6 wc => ∃ (kq : Nat) (x6_41 : List Int) (x109000_41 : List (S43)) (x110000_41 : Int) (u109000 : Value), Aside0 (tree_Draw.j2 kq a0 x6_41 x109000_41 x110000_41 = some (r1, r2, r3)) ∧ Aside0 (kq ≤ k1) ∧ Aside0 (Kd.R (Kd.int .i64) 3 wc w.heap.size (fun k_ => k_ ≠ gb109) v6 x6_41) ∧ Aside0 (Kd.R k43 43 wc w.heap.size (fun _ => True) u109000 x109000_41) ∧ Aside0 (wc.heap[gb107]? = some (.cells #[(.slice none 0 0)] 24 (0, 0))) ∧ Aside0 (wc.heap[gb108]? = some (.cells #[u109000] 24 (0, 0))) ∧ Aside0 (wc.heap[gb109]? = some (.cells #[.int .i64 x110000_41] 3 (0, 0))) ∧ Aside0 (Below w.heap.size w wc))
                    case first =>
                      have H := HC42.out
                      clear HC42
                      have H' := Aside0.mk H
                      clear H
                      go_wp2
                      go_loopg [6] k1 (fun kq v6 w' => ∃ (x6_2 : List Int) (x109000_2 : List (S43)) (x110000_2 : Int) (u109000 : Value), Aside0 (tree_Draw.l1 kq a0 x6_2 x109000_2 x110000_2 = some (r1, r2, r3)) ∧ Aside0 (kq ≤ k1) ∧ Aside0 (Kd.R (Kd.int .i64) 3 w' w.heap.size (fun k_ => k_ ≠ gb109) v6 x6_2) ∧ Aside0 (Kd.R k43 43 w' w.heap.size (fun _ => True) u109000 x109000_2) ∧ Aside0 (w'.heap[gb107]? = some (.cells #[(.slice none 0 0)] 24 (0, 0))) ∧ Aside0 (w'.heap[gb108]? = some (.cells #[u109000] 24 (0, 0))) ∧ Aside0 (w'.heap[gb109]? = some (.cells #[.int .i64 x110000_2] 3 (0, 0))) ∧ Aside0 (Below w.heap.size w w'))
                      case atStart => exact ⟨(x6_1), (y117), (ji23), (.slice Ao51 y117.length co51), H', ⟨Nat.le_refl _⟩, ⟨by (with_reducible repeat (first | apply Kd.R_alloc | apply Kd.R_drewN | apply Kd.R_drew)); exact Kd.R_mono (Kd.R_far (p := ⟨gb108, 0, none⟩) (Kd.R_types HO_6.out BK108.out (by decide)) (fun _ hk => hk.2) (.slice Ao51 y117.length co51)) (fun _ hk => hk.1)⟩, ⟨by (with_reducible repeat (first | apply Kd.R_alloc | apply Kd.R_drewN | apply Kd.R_drew)); exact Kd.R_mono (Kd.R_far (p := ⟨gb108, 0, none⟩) (Kd.R_types HO119.out BK108.out (by decide)) (fun _ hk => hk.2) (.slice Ao51 y117.length co51)) (fun _ hk => trivial)⟩, ⟨by (with_reducible repeat (first | refine blk_drewN ?_ _ | refine blk_drew ?_ | refine blk_alloc ?_ _)); refine blk_far ?_ NB107_108.out _; (with_reducible repeat (first | refine blk_drewN ?_ _ | refine blk_drew ?_ | refine blk_alloc ?_ _)); exact BK107.out⟩, ⟨by (with_reducible repeat (first | refine blk_drewN ?_ _ | refine blk_drew ?_ | refine blk_alloc ?_ _)); refine blk_put (cs := #[u109000]) ?_ 0 _ rfl; (with_reducible repeat (first | refine blk_drewN ?_ _ | refine blk_drew ?_ | refine blk_alloc ?_ _)); exact BK108.out⟩, ⟨by (with_reducible repeat (first | refine blk_drewN ?_ _ | refine blk_drew ?_ | refine blk_alloc ?_ _)); refine blk_far ?_ NB109_108.out _; (with_reducible repeat (first | refine blk_drewN ?_ _ | refine blk_drew ?_ | refine blk_alloc ?_ _)); exact BK109.out⟩, ⟨by repeat (first | (with_reducible first | exact HB.out | apply below_alloc | apply pw_below_drewN | apply below_drew1 | refine below_set ?_ GE107.out | refine below_set ?_ GE108.out | refine below_set ?_ GE109.out) | exact HB.out)⟩⟩
                      case round =>
                        clear H'
                        try clear c1
                        try clear c2
                        try clear p2
                        try clear c3
                        try clear c4
                        try clear c5
                        try clear c6
                        try clear p6
                        try clear c7
                        try clear c8
                        try clear c8b0
                        try clear c8b1
                        try clear c9
                        try clear c9b0
                        try clear c9b1
                        try clear c11
                        try clear c11b0
                        try clear c13
                        try clear c14
                        try clear c20
                        try clear c22
                        try clear c24
                        try clear c24b0
                        try clear c24b1
                        try clear c25
                        try clear c25b0
                        try clear c25b1
                        try clear c27
                        try clear c28
                        try clear c29
                        try clear c30
                        try clear c34
                        try clear c35
                        try clear c36
                        try clear c43
                        try clear c44
                        try clear c48
                        try clear hcz15_0
                        try clear hcz17_0
                        try clear hcz21_0
                        try clear hcz31_0
                        try clear hcz33_0
                        try clear hcz35_0
                        try clear hcz38_0
                        try clear hcz39_0
                        try clear hcz41_0
                        try clear hcz45_0
                        try clear hcz47_0
                        try clear hcz49_0
                        try clear hcz52_0
                        try clear hcz53_0
                        try clear hcz7_0
                        try clear hfz15_0
                        try clear hfz17_0
                        try clear hfz21_0
                        try clear hfz31_0
                        try clear hfz33_0
                        try clear hfz35_0
                        try clear hfz38_0
                        try clear hfz39_0
                        try clear hfz41_0
                        try clear hfz45_0
                        try clear hfz47_0
                        try clear hfz49_0
                        try clear hfz52_0
                        try clear hfz53_0
                        try clear hfz7_0
                        try clear p2
                        obtain ⟨x6_2, x109000_2, x110000_2, u109000, HA, HK2, HO_6, HO_109000, BK107, BK108, BK109, HB⟩ := hrel
                        cases gk with
                        | zero => exact absurd HA.out (by simp [tree_Draw.l1])
                        | succ k2 =>
                          have H := HA.out
                          clear HA
                          simp only [tree_Draw.l1] at H
                          by_cases c54 : (x6_2.length : Int) > 0
                          · rw [if_pos c54] at H
                            have c54b0 : decide (0 < (x6_2.length : Int)) = true := decide_eq_true c54
                            have c54b1 : decide (0 < x6_2.length) = true := decide_eq_true (by omega)
                            clear c54
                            (first | rw [c54b0] | (simp only [i64_w, i32_w]; rw [c54b0]) | skip)
                            by_cases c55 : 0 ≤ x110000_2
                            · rw [if_pos c55] at H
                              have c55b0 := eq_true c55
                              have c55b1 : decide (0 ≤ x110000_2) = true := decide_eq_true c55
                              clear c55
                              by_cases c56 : x110000_2 ≤ (a0.size : Int)
                              · rw [if_pos c56] at H
                                have c56b0 := eq_true c56
                                have c56b1 : decide (x110000_2 ≤ (a0.size : Int)) = true := decide_eq_true c56
                                clear c56
                                replace H := Option.bind_eq_some_iff.mp H
                                obtain ⟨t124, A570, H⟩ := H
                                replace H : (if t124 = true then (if 0 ≤ (wrap64 ((x6_2.length : Int) - 1)) then (if (wrap64 ((x6_2.length : Int) - 1)) < (x6_2.length : Int) then (if 0 ≤ (rd x6_2 (wrap64 ((x6_2.length : Int) - 1))) then (if (rd x6_2 (wrap64 ((x6_2.length : Int) - 1))) < (x109000_2.length : Int) then (if (wrap64 ((x6_2.length : Int) - 1)) ≤ (x6_2.length : Int) then (tree_Draw.l1 k2 a0 (x6_2.take ((wrap64 ((x6_2.length : Int) - 1)) : Int).toNat) (x109000_2.set ((rd x6_2 (wrap64 ((x6_2.length : Int) - 1))) : Int).toNat (⟨(rd_T43 x109000_2 (rd x6_2 (wrap64 ((x6_2.length : Int) - 1)))).f0, (rd_T43 x109000_2 (rd x6_2 (wrap64 ((x6_2.length : Int) - 1)))).f1, (rd_T43 x109000_2 (rd x6_2 (wrap64 ((x6_2.length : Int) - 1)))).f2, wrap64 ((x109000_2.length : Int) - (rd x6_2 (wrap64 ((x6_2.length : Int) - 1))))⟩ : S43)) (wrap64 (x110000_2 + 1))) else (none)) else (none)) else (none)) else (none)) else (none)) else (tree_Draw.j2 k2 a0 x6_2 x109000_2 x110000_2)) = some (r1, r2, r3) := H
                                have A57 := Aside0.mk A570
                                clear A570
                                by_cases c58 : t124 = true
                                · subst c58
                                  have H1 : (if 0 ≤ (wrap64 ((x6_2.length : Int) - 1)) then (if (wrap64 ((x6_2.length : Int) - 1)) < (x6_2.length : Int) then (if 0 ≤ (rd x6_2 (wrap64 ((x6_2.length : Int) - 1))) then (if (rd x6_2 (wrap64 ((x6_2.length : Int) - 1))) < (x109000_2.length : Int) then (if (wrap64 ((x6_2.length : Int) - 1)) ≤ (x6_2.length : Int) then (tree_Draw.l1 k2 a0 (x6_2.take ((wrap64 ((x6_2.length : Int) - 1)) : Int).toNat) (x109000_2.set ((rd x6_2 (wrap64 ((x6_2.length : Int) - 1))) : Int).toNat (⟨(rd_T43 x109000_2 (rd x6_2 (wrap64 ((x6_2.length : Int) - 1)))).f0, (rd_T43 x109000_2 (rd x6_2 (wrap64 ((x6_2.length : Int) - 1)))).f1, (rd_T43 x109000_2 (rd x6_2 (wrap64 ((x6_2.length : Int) - 1)))).f2, wrap64 ((x109000_2.length : Int) - (rd x6_2 (wrap64 ((x6_2.length : Int) - 1))))⟩ : S43)) (wrap64 (x110000_2 + 1))) else (none)) else (none)) else (none)) else (none)) else (none)) = some (r1, r2, r3) := by rw [if_pos rfl] at H; exact H
                                  clear H
                                  have H := H1
                                  clear H1
                                  obtain ⟨ji59, hji59⟩ : ∃ j_ : Int, (wrap64 ((x6_2.length : Int) - 1)) = j_ := ⟨_, rfl⟩
                                  replace H : (if 0 ≤ (ji59) then (if (ji59) < (x6_2.length : Int) then (if 0 ≤ (rd x6_2 (ji59)) then (if (rd x6_2 (ji59)) < (x109000_2.length : Int) then (if (ji59) ≤ (x6_2.length : Int) then (tree_Draw.l1 k2 a0 (x6_2.take ((ji59) : Int).toNat) (x109000_2.set ((rd x6_2 (ji59)) : Int).toNat (⟨(rd_T43 x109000_2 (rd x6_2 (ji59))).f0, (rd_T43 x109000_2 (rd x6_2 (ji59))).f1, (rd_T43 x109000_2 (rd x6_2 (ji59))).f2, wrap64 ((x109000_2.length : Int) - (rd x6_2 (ji59)))⟩ : S43)) (wrap64 (x110000_2 + 1))) else (none)) else (none)) else (none)) else (none)) else (none)) = some (r1, r2, r3) := by first | (rw [hji59] at H; exact H) | (simp only [hji59] at H ⊢; exact H)
                                  (try rw [hji59] at A57)
                                  have hji59w : (IntKind.i64.wrap ((x6_2.length : Int) - 1)) = ji59 := (i64_w _).trans hji59
                                  by_cases c60 : 0 ≤ (ji59)
                                  · rw [if_pos c60] at H
                                    have c60b0 : decide (0 ≤ (ji59)) = true := decide_eq_true c60
                                    clear c60
                                    by_cases c61 : (ji59) < (x6_2.length : Int)
                                    · rw [if_pos c61] at H
                                      have c61b0 : decide ((ji59) < (x6_2.length : Int)) = true := decide_eq_true c61
                                      clear c61
                                      by_cases c62 : 0 ≤ (rd x6_2 (ji59))
                                      · rw [if_pos c62] at H
                                        have c62b0 : decide (0 ≤ (rd x6_2 (ji59))) = true := decide_eq_true c62
                                        clear c62
                                        by_cases c63 : (rd x6_2 (ji59)) < (x109000_2.length : Int)
                                        · rw [if_pos c63] at H
                                          have c63b0 : decide ((rd x6_2 (ji59)) < (x109000_2.length : Int)) = true := decide_eq_true c63
                                          clear c63
                                          obtain ⟨y126, hy126⟩ : ∃ y_ : List (S43), y_ = (x109000_2.set ((rd x6_2 (ji59)) : Int).toNat (⟨(rd_T43 x109000_2 (rd x6_2 (ji59))).f0, (rd_T43 x109000_2 (rd x6_2 (ji59))).f1, (rd_T43 x109000_2 (rd x6_2 (ji59))).f2, wrap64 ((x109000_2.length : Int) - (rd x6_2 (ji59)))⟩ : S43)) := ⟨_, rfl⟩
                                          replace H : (if (ji59) ≤ (x6_2.length : Int) then (tree_Draw.l1 k2 a0 (x6_2.take ((ji59) : Int).toNat) y126 (wrap64 (x110000_2 + 1))) else (none)) = some (r1, r2, r3) := by first | (rw [hy126]; with_reducible exact H) | (have H2_ := (Option.bind_some _ _).symm.trans H; rw [hy126]; with_reducible exact H2_) | (have H2_ := (Option.bind_some _ _).symm.trans H; with_reducible exact H2_) | with_reducible exact H | (rw [hy126]; exact H) | exact H
                                          have Ny126 := Aside0.mk hy126
                                          clear hy126
                                          by_cases c65 : (ji59) ≤ (x6_2.length : Int)
                                          · rw [if_pos c65] at H
                                            have c65b0 := eq_true c65
                                            have c65b1 : decide ((ji59) ≤ (x6_2.length : Int)) = true := decide_eq_true c65
                                            clear c65
                                            obtain ⟨y127, hy127⟩ : ∃ y_ : List Int, y_ = (x6_2.take ((ji59) : Int).toNat) := ⟨_, rfl⟩
                                            replace H : (tree_Draw.l1 k2 a0 y127 y126 (wrap64 (x110000_2 + 1))) = some (r1, r2, r3) := by first | (rw [hy127]; with_reducible exact H) | (have H2_ := (Option.bind_some _ _).symm.trans H; rw [hy127]; with_reducible exact H2_) | (have H2_ := (Option.bind_some _ _).symm.trans H; with_reducible exact H2_) | with_reducible exact H | (rw [hy127]; exact H) | exact H
                                            have Ny127 := Aside0.mk hy127
                                            clear hy127
                                            have H' := Aside0.mk H
                                            clear H
                                            obtain ⟨Ao66, co66, eo66⟩ := Kd.R_slice HO_6.out
                                            subst eo66
                                            have hnb67 := NB109_107.out
                                            have hnc67 := NB107_109.out
                                            have hnb68 := NB109_108.out
                                            have hnc68 := NB108_109.out
                                            have hcz69_0 : wr.cell? ⟨gb109, 0, none⟩ = some (.int .i64 x110000_2) := (blk_cell BK109.out 0).trans rfl
                                            have hfz69_0 := blk_frozen BK109.out 0
                                            go_wp2_with (first | (go_at_call 36; (with_reducible refine (strings_HasPrefix.calls (a0.extract (x110000_2 : Int).toNat a0.size) (⟨#[41]⟩ : ByteArray) true _ A57.out).mono ?_); rintro e w' ⟨rfl, ⟨nd, rfl⟩⟩; (try (rw [drewN_self wr]; generalize hq_ : World.drewN wr _ = wr; have n0_ : Aside0 (Kd.R k43 43 wr w.heap.size (fun _ => True) u109000 x109000_2) := ⟨by rw [← hq_]; exact (by (with_reducible repeat (first | apply Kd.R_alloc | apply Kd.R_drewN | apply Kd.R_drew)); exact HO_109000.out)⟩; have n1_ : Aside0 (Kd.R (Kd.int .i64) 3 wr w.heap.size (fun k_ => k_ ≠ gb109) (.slice Ao66 x6_2.length co66) x6_2) := ⟨by rw [← hq_]; exact (by (with_reducible repeat (first | apply Kd.R_alloc | apply Kd.R_drewN | apply Kd.R_drew)); exact HO_6.out)⟩; have n2_ : Aside0 (wr.heap[gb107]? = some (.cells #[.slice none 0 0] 24 (0, 0))) := ⟨by rw [← hq_]; exact (by (with_reducible repeat (first | refine blk_drewN ?_ _ | refine blk_drew ?_ | refine blk_alloc ?_ _)); exact BK107.out)⟩; have n3_ : Aside0 (wr.heap[gb108]? = some (.cells #[u109000] 24 (0, 0))) := ⟨by rw [← hq_]; exact (by (with_reducible repeat (first | refine blk_drewN ?_ _ | refine blk_drew ?_ | refine blk_alloc ?_ _)); exact BK108.out)⟩; have n4_ : Aside0 (wr.heap[gb109]? = some (.cells #[.int .i64 x110000_2] 3 (0, 0))) := ⟨by rw [← hq_]; exact (by (with_reducible repeat (first | refine blk_drewN ?_ _ | refine blk_drew ?_ | refine blk_alloc ?_ _)); exact BK109.out)⟩; have n5_ : Aside0 (Below w.heap.size w wr) := ⟨by rw [← hq_]; exact (by repeat (first | (with_reducible first | exact HB.out | apply below_alloc | apply pw_below_drewN | apply below_drew1 | refine below_set ?_ GE107.out | refine below_set ?_ GE108.out | refine below_set ?_ GE109.out) | exact HB.out))⟩; clear HO_109000 HO_6 BK107 BK108 BK109 HB hq_; have HO_109000 := n0_; have HO_6 := n1_; have BK107 := n2_; have BK108 := n3_; have BK109 := n4_; have HB := n5_; clear n0_ n1_ n2_ n3_ n4_ n5_)); have p125 : 0 ≤ ((ji59) : Int) := of_decide_eq_true (by first | (with_reducible assumption) | assumption); have q125 : (ji59) < (x6_2.length : Int) := of_decide_eq_true (by first | (with_reducible assumption) | assumption); obtain ⟨ad125, e125, hx125_0⟩ := Kd.at_int (Kd.R_reads' HO_6.out).2.2 (ji59) p125 q125; cases e125; replace p125 := eq_true p125; replace q125 := eq_true q125; have hnb70 := NB108_107.out; have hnc70 := NB107_108.out; have hcz71_0 : wr.cell? ⟨gb108, 0, none⟩ = some (u109000) := (blk_cell BK108.out 0).trans rfl; have hfz71_0 := blk_frozen BK108.out 0; obtain ⟨Ao72, co72, eo72⟩ := Kd.R_slice HO_109000.out; subst eo72; have p64 : 0 ≤ ((rd x6_2 (ji59)) : Int) := of_decide_eq_true (by first | (with_reducible assumption) | assumption); have q64 : ((rd x6_2 (ji59)) : Int) < ((x109000_2.length : Int) : Int) := of_decide_eq_true (by first | (with_reducible assumption) | assumption); obtain ⟨go64, co64, eo64, gb64, gl64, cl64, HG64⟩ := Kd.R_form HO_109000.out (by omega); (first | cases eo64 | (injection eo64 with ea_ en_ ec_; (first | subst ea_ | (injection ea_ with ea_; subst ea_)); subst ec_; clear en_)); have GB64 := Aside0.mk gb64; have GG64 := Aside0.mk HG64; clear gb64 gl64 HG64; obtain ⟨ce64, hcl64, hM64, hcc64, hfr64⟩ := Kd.R_elem HO_109000.out z43 ((rd x6_2 (ji59)) : Int) p64 q64; obtain rfl := k43_openM hM64; have hx64_0 : wr.cell? ⟨go64, ((rd x6_2 (ji59)) : Int).toNat * 4, none⟩ = some (.int .u8 ((rd_T43 x109000_2 (rd x6_2 (ji59))).f0)) := hcc64 0 _ rfl; have hx64_1 : wr.cell? ⟨go64, ((rd x6_2 (ji59)) : Int).toNat * 4 + 1, none⟩ = some (.int .i64 ((rd_T43 x109000_2 (rd x6_2 (ji59))).f1)) := hcc64 1 _ rfl; have hx64_2 : wr.cell? ⟨go64, ((rd x6_2 (ji59)) : Int).toNat * 4 + 2, none⟩ = some (.int .i64 ((rd_T43 x109000_2 (rd x6_2 (ji59))).f2)) := hcc64 2 _ rfl; have hx64_3 : wr.cell? ⟨go64, ((rd x6_2 (ji59)) : Int).toNat * 4 + 3, none⟩ = some (.int .i64 ((rd_T43 x109000_2 (rd x6_2 (ji59))).f3)) := hcc64 3 _ rfl; have hf64_0 : wr.frozen? ⟨go64, ((rd x6_2 (ji59)) : Int).toNat * 4, none⟩ = false := hfr64 0; have hf64_1 : wr.frozen? ⟨go64, ((rd x6_2 (ji59)) : Int).toNat * 4 + 1, none⟩ = false := hfr64 1; have hf64_2 : wr.frozen? ⟨go64, ((rd x6_2 (ji59)) : Int).toNat * 4 + 2, none⟩ = false := hfr64 2; have hf64_3 : wr.frozen? ⟨go64, ((rd x6_2 (ji59)) : Int).toNat * 4 + 3, none⟩ = false := hfr64 3; clear hcl64 hcc64 hfr64 hM64; replace p64 := eq_true p64; replace q64 := eq_true q64; have HX73 := Aside0.mk (show Kd.R k43 43 wr w.heap.size (fun _ => True) (.slice (some ⟨go64, 0, none⟩) x109000_2.length co72) x109000_2 from (by (with_reducible repeat (first | apply Kd.R_alloc | apply Kd.R_drewN | apply Kd.R_drew)); exact HO_109000.out)); obtain ⟨ce73, hcl73, hM73, hcc73, hfr73⟩ := Kd.R_elem HX73.out z43 ((rd x6_2 (ji59)) : Int) (of_decide_eq_true (by first | (with_reducible assumption) | assumption)) (by have h_ : ((rd x6_2 (ji59)) : Int) < ((x109000_2.length : Int) : Int) := of_decide_eq_true (by first | (with_reducible assumption) | assumption); first | exact h_ | (have e_ := (Kd.R_reads' HO_109000.out).1; omega) | simpa using h_); obtain rfl := k43_openM hM73; have HP73 := Kd.R_seg HX73.out ((rd x6_2 (ji59)) : Int) (of_decide_eq_true (by first | (with_reducible assumption) | assumption)) (by have h_ : ((rd x6_2 (ji59)) : Int) < ((x109000_2.length : Int) : Int) := of_decide_eq_true (by first | (with_reducible assumption) | assumption); first | exact h_ | (have e_ := (Kd.R_reads' HO_109000.out).1; omega) | simpa using h_) (seg := [.int .i64 (wrap64 ((x109000_2.length : Int) - (rd x6_2 (ji59))))]) (j := 3) hcl73 hcc73 (show 4 ≤ 4 from by decide) (x' := (⟨(rd_T43 x109000_2 (rd x6_2 (ji59))).f0, (rd_T43 x109000_2 (rd x6_2 (ji59))).f1, (rd_T43 x109000_2 (rd x6_2 (ji59))).f2, wrap64 ((x109000_2.length : Int) - (rd x6_2 (ji59)))⟩ : S43)) (k43_mkM _ _ _ (⟨(rd_T43 x109000_2 (rd x6_2 (ji59))).f0, (rd_T43 x109000_2 (rd x6_2 (ji59))).f1, (rd_T43 x109000_2 (rd x6_2 (ji59))).f2, wrap64 ((x109000_2.length : Int) - (rd x6_2 (ji59)))⟩ : S43) ) (fun _ hk => hk); have hx73_3 := hcc73 3 _ rfl; (try simp only [show (k43).sz = 4 from rfl, Nat.mul_one, Nat.add_zero] at hx73_3); have hf73_3 := hfr73 3; (try simp only [show (k43).sz = 4 from rfl, Nat.mul_one, Nat.add_zero] at hf73_3); clear hcl73 hcc73 hfr73 hM73) | ((with_reducible refine gate_store (t := 3) (p := 75) rfl ?_); refine store_event (t := 3) (p := 75) (v := ?vo_w74) (w1 := (wr.setCell ⟨go64, ((rd x6_2 (ji59)) : Int).toNat * 4 + 3, none⟩ (.int .i64 (wrap64 ((x109000_2.length : Int) - (rd x6_2 (ji59))))))) ?hg ?ho ?hn ?hr ?_; (case ho => rfl); (case hg => rfl); (case hn => rfl); (case hr => first | (go_simp; done) | (go_simp; rfl)); intro w74 hw; have hg : wr.grownBy w74 (some go64) := (by rw [hw]; exact HP73.2); have hp_ : Kd.R k43 43 w74 w.heap.size (fun _ => True) (.slice (some ⟨go64, 0, none⟩) x109000_2.length co72) y126 := (by rw [hw, Ny126.out]; exact HP73.1); clear HP73; have n0_ := Aside0.mk (Kd.R_over' (v := (.slice (some ⟨go64, 0, none⟩) x109000_2.length co72)) (by (with_reducible repeat (first | apply Kd.R_alloc | apply Kd.R_drewN | apply Kd.R_drew)); exact HO_6.out) (Kd.R_typed HO_109000.out) (by decide) hg); have n1_ := Aside0.mk (hp_); have n2_ := Aside0.mk (blk_grown (g := gb107) (o := .cells #[.slice none 0 0] 24 (0, 0)) (by (with_reducible repeat (first | refine blk_drewN ?_ _ | refine blk_drew ?_ | refine blk_alloc ?_ _)); exact BK107.out) hg (Kd.R_ne HO_109000.out BK107.out (by decide))); have n3_ := Aside0.mk (blk_grown (g := gb108) (o := .cells #[.slice (some ⟨go64, 0, none⟩) x109000_2.length co72] 24 (0, 0)) (by (with_reducible repeat (first | refine blk_drewN ?_ _ | refine blk_drew ?_ | refine blk_alloc ?_ _)); exact BK108.out) hg (Kd.R_ne HO_109000.out BK108.out (by decide))); have n4_ := Aside0.mk (blk_grown (g := gb109) (o := .cells #[.int .i64 x110000_2] 3 (0, 0)) (by (with_reducible repeat (first | refine blk_drewN ?_ _ | refine blk_drew ?_ | refine blk_alloc ?_ _)); exact BK109.out) hg (Kd.R_ne HO_109000.out BK109.out (by decide))); have n5_ := Aside0.mk ((by rw [hw]; exact below_set (HB.out) GB64.out : Below w.heap.size w w74)); clear HO_6; clear HO_109000; clear BK107; clear BK108; clear BK109; clear HB; have HO_6 := n0_; have HO_109000 := n1_; have BK107 := n2_; have BK108 := n3_; have BK109 := n4_; have HB := n5_; clear n0_ n1_ n2_ n3_ n4_ n5_; clear hg hw hp_; have q75 : ((ji59) : Int) ≤ ((x6_2.length : Int) : Int) := of_decide_eq_true (by first | (with_reducible assumption) | assumption); obtain ⟨i075, hi075, _, hsz75, _⟩ := info_parts info3; have hcut75 := cut_to (P := Tryd.prog) 55 3 .i64 Tryd.underlying55 hi075 (some ad125) x6_2.length co66 (ji59) (of_decide_eq_true (by first | (with_reducible assumption) | assumption)) q75 (Kd.R_reads' HO_6.out).2.1; have hr75 := Kd.R_take (m := ((ji59) : Int).toNat) HO_6.out (by omega); have hy75 : y127.length = ((ji59) : Int).toNat := (by rw [Ny127.out, List.length_take]; omega); rw [← Ny127.out] at hr75; rw [← hy75] at hr75 hcut75; clear hy75 hi075 hsz75 HO_6; have HO129 := Aside0.mk hr75; clear hr75; replace q75 := eq_true q75; have hcz76_0 : w74.cell? ⟨gb109, 0, none⟩ = some (.int .i64 x110000_2) := (blk_cell BK109.out 0).trans rfl; have hfz76_0 := blk_frozen BK109.out 0))
                                            go_roundg k2
                                            case measure => have := HK1.out; have := HK2.out; omega
                                            case rel => exact ⟨(y127), (y126), (wrap64 (x110000_2 + 1)), (.slice (some ⟨go64, 0, none⟩) x109000_2.length co72), H', ⟨by have := HK1.out; have := HK2.out; omega⟩, ⟨by (with_reducible repeat (first | apply Kd.R_alloc | apply Kd.R_drewN | apply Kd.R_drew)); exact Kd.R_mono (Kd.R_far (p := ⟨gb109, 0, none⟩) (Kd.R_mono HO129.out (fun k_ hk => (⟨hk, hk⟩ : _ ∧ k_ ≠ gb109))) (fun _ hk => hk.2) (.int .i64 (wrap64 (x110000_2 + 1)))) (fun _ hk => hk.1)⟩, ⟨by (with_reducible repeat (first | apply Kd.R_alloc | apply Kd.R_drewN | apply Kd.R_drew)); exact Kd.R_mono (Kd.R_far (p := ⟨gb109, 0, none⟩) (Kd.R_types HO_109000.out BK109.out (by decide)) (fun _ hk => hk.2) (.int .i64 (wrap64 (x110000_2 + 1)))) (fun _ hk => trivial)⟩, ⟨by (with_reducible repeat (first | refine blk_drewN ?_ _ | refine blk_drew ?_ | refine blk_alloc ?_ _)); refine blk_far ?_ NB107_109.out _; (with_reducible repeat (first | refine blk_drewN ?_ _ | refine blk_drew ?_ | refine blk_alloc ?_ _)); exact BK107.out⟩, ⟨by (with_reducible repeat (first | refine blk_drewN ?_ _ | refine blk_drew ?_ | refine blk_alloc ?_ _)); refine blk_far ?_ NB108_109.out _; (with_reducible repeat (first | refine blk_drewN ?_ _ | refine blk_drew ?_ | refine blk_alloc ?_ _)); exact BK108.out⟩, ⟨by (with_reducible repeat (first | refine blk_drewN ?_ _ | refine blk_drew ?_ | refine blk_alloc ?_ _)); refine blk_put (cs := #[.int .i64 x110000_2]) ?_ 0 _ rfl; (with_reducible repeat (first | refine blk_drewN ?_ _ | refine blk_drew ?_ | refine blk_alloc ?_ _)); exact BK109.out⟩, ⟨by repeat (first | (with_reducible first | exact HB.out | apply below_alloc | apply pw_below_drewN | apply below_drew1 | refine below_set ?_ GE107.out | refine below_set ?_ GE108.out | refine below_set ?_ GE109.out) | exact HB.out)⟩⟩
                                          · rw [if_neg c65] at H
                                            exact absurd H (by simp)
                                        · rw [if_neg c63] at H
                                          exact absurd H (by simp)
                                      · rw [if_neg c62] at H
                                        exact absurd H (by simp)
                                    · rw [if_neg c61] at H
                                      exact absurd H (by simp)
                                  · rw [if_neg c60] at H
                                    exact absurd H (by simp)
                                · replace c58 := Bool.eq_false_iff.mpr c58
                                  subst c58
                                  have H1 : (tree_Draw.j2 k2 a0 x6_2 x109000_2 x110000_2) = some (r1, r2, r3) := by rw [if_neg (show ¬ (false = true) by decide)] at H; exact H
                                  clear H
                                  have H := H1
                                  clear H1
                                  have H' := Aside0.mk H
                                  clear H
                                  obtain ⟨Ao77, co77, eo77⟩ := Kd.R_slice HO_6.out
                                  subst eo77
                                  have hnb78 := NB109_107.out
                                  have hnc78 := NB107_109.out
                                  have hnb79 := NB109_108.out
                                  have hnc79 := NB108_109.out
                                  have hcz80_0 : wr.cell? ⟨gb109, 0, none⟩ = some (.int .i64 x110000_2) := (blk_cell BK109.out 0).trans rfl
                                  have hfz80_0 := blk_frozen BK109.out 0
                                  go_wp2_with (first | (go_at_call 36; (with_reducible refine (strings_HasPrefix.calls (a0.extract (x110000_2 : Int).toNat a0.size) (⟨#[41]⟩ : ByteArray) false _ A57.out).mono ?_); rintro e w' ⟨rfl, ⟨nd, rfl⟩⟩))
                                  go_meet
                                  case rel => exact ⟨_, (x6_2), (x109000_2), (x110000_2), (u109000), H', ⟨by have := HK1.out; have := HK2.out; first | omega | exact Nat.le_refl _⟩, ⟨by (with_reducible repeat (first | apply Kd.R_alloc | apply Kd.R_drewN | apply Kd.R_drew)); exact HO_6.out⟩, ⟨by (with_reducible repeat (first | apply Kd.R_alloc | apply Kd.R_drewN | apply Kd.R_drew)); exact HO_109000.out⟩, ⟨by (with_reducible repeat (first | refine blk_drewN ?_ _ | refine blk_drew ?_ | refine blk_alloc ?_ _)); exact BK107.out⟩, ⟨by (with_reducible repeat (first | refine blk_drewN ?_ _ | refine blk_drew ?_ | refine blk_alloc ?_ _)); exact BK108.out⟩, ⟨by (with_reducible repeat (first | refine blk_drewN ?_ _ | refine blk_drew ?_ | refine blk_alloc ?_ _)); exact BK109.out⟩, ⟨by repeat (first | (with_reducible first | exact HB.out | apply below_alloc | apply pw_below_drewN | apply below_drew1 | refine below_set ?_ GE107.out | refine below_set ?_ GE108.out | refine below_set ?_ GE109.out) | exact HB.out)⟩⟩
                              · rw [if_neg c56] at H
                                exact absurd H (by simp)
                            · rw [if_neg c55] at H
                              exact absurd H (by simp)
                          · rw [if_neg c54] at H
                            have c54b0 : decide (0 < (x6_2.length : Int)) = false := decide_eq_false c54
                            have c54b1 : decide (0 < x6_2.length) = false := decide_eq_false (by omega)
                            clear c54
                            (first | rw [c54b0] | (simp only [i64_w, i32_w]; rw [c54b0]) | skip)
                            have H' := Aside0.mk H
                            clear H
                            obtain ⟨Ao81, co81, eo81⟩ := Kd.R_slice HO_6.out
                            subst eo81
                            go_wp2
                            go_meet
                            case rel => exact ⟨_, (x6_2), (x109000_2), (x110000_2), (u109000), H', ⟨by have := HK1.out; have := HK2.out; first | omega | exact Nat.le_refl _⟩, ⟨by (with_reducible repeat (first | apply Kd.R_alloc | apply Kd.R_drewN | apply Kd.R_drew)); exact HO_6.out⟩, ⟨by (with_reducible repeat (first | apply Kd.R_alloc | apply Kd.R_drewN | apply Kd.R_drew)); exact HO_109000.out⟩, ⟨by (with_reducible repeat (first | refine blk_drewN ?_ _ | refine blk_drew ?_ | refine blk_alloc ?_ _)); exact BK107.out⟩, ⟨by (with_reducible repeat (first | refine blk_drewN ?_ _ | refine blk_drew ?_ | refine blk_alloc ?_ _)); exact BK108.out⟩, ⟨by (with_reducible repeat (first | refine blk_drewN ?_ _ | refine blk_drew ?_ | refine blk_alloc ?_ _)); exact BK109.out⟩, ⟨by repeat (first | (with_reducible first | exact HB.out | apply below_alloc | apply pw_below_drewN | apply below_drew1 | refine below_set ?_ GE107.out | refine below_set ?_ GE108.out | refine below_set ?_ GE109.out) | exact HB.out)⟩⟩
                    case rest =>
                      clear HC42
                      try clear c1
                      try clear p1
                      try clear q1
                      try clear hx1
                      try clear c2
                      try clear p2
                      try clear c3
                      try clear c4
                      try clear c5
                      try clear c6
                      try clear p6
                      try clear q6
                      try clear hx6
                      try clear hf6
                      try clear c7
                      try clear q7
                      try clear hx7
                      try clear hf7
                      try clear c8
                      try clear c8b0
                      try clear c8b1
                      try clear c9
                      try clear c9b0
                      try clear c9b1
                      try clear c11
                      try clear c11b0
                      try clear p12
                      try clear q12
                      try clear hx12
                      try clear c13
                      try clear c14
                      try clear c20
                      try clear c22
                      try clear c24
                      try clear c24b0
                      try clear c24b1
                      try clear c25
                      try clear c25b0
                      try clear c25b1
                      try clear c27
                      try clear c28
                      try clear c29
                      try clear c30
                      try clear c34
                      try clear c35
                      try clear c36
                      try clear c43
                      try clear c44
                      try clear c48
                      try clear c54
                      try clear c54b0
                      try clear c54b1
                      try clear c55
                      try clear c55b0
                      try clear c55b1
                      try clear c56
                      try clear c56b0
                      try clear c56b1
                      try clear c58
                      try clear c60
                      try clear c60b0
                      try clear c61
                      try clear c61b0
                      try clear c62
                      try clear c62b0
                      try clear c63
                      try clear c63b0
                      try clear c64
                      try clear p64
                      try clear q64
                      try clear hx64
                      try clear hf64
                      try clear c65
                      try clear c65b0
                      try clear c65b1
                      try clear c67
                      try clear c68
                      try clear c70
                      try clear c73
                      try clear hx73
                      try clear hf73
                      try clear q75
                      try clear c78
                      try clear c79
                      try clear hcz15_0
                      try clear hcz17_0
                      try clear hcz21_0
                      try clear hcz31_0
                      try clear hcz33_0
                      try clear hcz35_0
                      try clear hcz38_0
                      try clear hcz39_0
                      try clear hcz41_0
                      try clear hcz45_0
                      try clear hcz47_0
                      try clear hcz49_0
                      try clear hcz52_0
                      try clear hcz53_0
                      try clear hcz69_0
                      try clear hcz71_0
                      try clear hcz76_0
                      try clear hcz7_0
                      try clear hcz80_0
                      try clear hfz15_0
                      try clear hfz17_0
                      try clear hfz21_0
                      try clear hfz31_0
                      try clear hfz33_0
                      try clear hfz35_0
                      try clear hfz38_0
                      try clear hfz39_0
                      try clear hfz41_0
                      try clear hfz45_0
                      try clear hfz47_0
                      try clear hfz49_0
                      try clear hfz52_0
                      try clear hfz53_0
                      try clear hfz69_0
                      try clear hfz71_0
                      try clear hfz76_0
                      try clear hfz7_0
                      try clear hfz80_0
                      try clear hx125_0
                      try clear hx64_0
                      try clear hx64_1
                      try clear hx64_2
                      try clear hx64_3
                      try clear hx73_3
                      try clear p125
                      try clear p2
                      try clear p6
                      try clear p64
                      try clear q125
                      try clear q64
                      try clear q75
                      obtain ⟨kq, x6_41, x109000_41, x110000_41, u109000, HA, HJ41, HO_6, HO_109000, BK107, BK108, BK109, HB⟩ := hcut
                      cases kq with
                      | zero => exact absurd HA.out (by simp [tree_Draw.j2])
                      | succ kj41 =>
                        have H := HA.out
                        clear HA
                        simp only [tree_Draw.j2] at H
                        have HC82 := Aside0.mk H
                        clear H
                        go_upto_region 18 with (fail)
                        go_cut [83] (fun v83 wc => ∃ (kq : Nat) (x83_81 : Bool), v83 = .bool x83_81 ∧ Aside0 (tree_Draw.j3 kq a0 x6_41 x83_81 x109000_41 x110000_41 = some (r1, r2, r3)) ∧ Aside0 (kq ≤ kj41) ∧ Aside0 (Kd.R (Kd.int .i64) 3 wc w.heap.size (fun k_ => k_ ≠ gb109) u6 x6_41) ∧ Aside0 (Kd.R k43 43 wc w.heap.size (fun _ => True) u109000 x109000_41) ∧ Aside0 (wc.heap[gb107]? = some (.cells #[(.slice none 0 0)] 24 (0, 0))) ∧ Aside0 (wc.heap[gb108]? = some (.cells #[u109000] 24 (0, 0))) ∧ Aside0 (wc.heap[gb109]? = some (.cells #[.int .i64 x110000_41] 3 (0, 0))) ∧ Aside0 (Below w.heap.size w wc))
                        case first =>
                          have H := HC82.out
                          clear HC82
                          by_cases c83 : (x6_41.length : Int) = 0
                          · rw [if_pos c83] at H
                            have c83b0 : ((x6_41.length : Int) == 0) = true := beq_iff_eq.mpr c83
                            have c83b1 : ((x6_41.length : Int) != 0) = false := bne_eq_false_iff_eq.mpr c83
                            clear c83
                            (first | rw [c83b0] | (simp only [i64_w, i32_w]; rw [c83b0]) | skip)
                            have H' := Aside0.mk H
                            clear H
                            obtain ⟨Ao84, co84, eo84⟩ := Kd.R_slice HO_6.out
                            subst eo84
                            have hnb85 := NB109_107.out
                            have hnc85 := NB107_109.out
                            have hnb86 := NB109_108.out
                            have hnc86 := NB108_109.out
                            have hcz87_0 : wc.cell? ⟨gb109, 0, none⟩ = some (.int .i64 x110000_41) := (blk_cell BK109.out 0).trans rfl
                            have hfz87_0 := blk_frozen BK109.out 0
                            go_wp2
                            go_meet
                            case rel => exact ⟨_, ((x110000_41 == (a0.size : Int))), (by first | rfl | (simp; done) | (simp [*]; done)), H', ⟨by have := HK1.out; have := HJ41.out; first | omega | exact Nat.le_refl _⟩, ⟨by (with_reducible repeat (first | apply Kd.R_alloc | apply Kd.R_drewN | apply Kd.R_drew)); exact HO_6.out⟩, ⟨by (with_reducible repeat (first | apply Kd.R_alloc | apply Kd.R_drewN | apply Kd.R_drew)); exact HO_109000.out⟩, ⟨by (with_reducible repeat (first | refine blk_drewN ?_ _ | refine blk_drew ?_ | refine blk_alloc ?_ _)); exact BK107.out⟩, ⟨by (with_reducible repeat (first | refine blk_drewN ?_ _ | refine blk_drew ?_ | refine blk_alloc ?_ _)); exact BK108.out⟩, ⟨by (with_reducible repeat (first | refine blk_drewN ?_ _ | refine blk_drew ?_ | refine blk_alloc ?_ _)); exact BK109.out⟩, ⟨by repeat (first | (with_reducible first | exact HB.out | apply below_alloc | apply pw_below_drewN | apply below_drew1 | refine below_set ?_ GE107.out | refine below_set ?_ GE108.out | refine below_set ?_ GE109.out) | exact HB.out)⟩⟩
                          · rw [if_neg c83] at H
                            have c83b0 : ((x6_41.length : Int) == 0) = false := beq_eq_false_iff_ne.mpr c83
                            have c83b1 : ((x6_41.length : Int) != 0) = true := bne_iff_ne.mpr c83
                            have c83b2 : ¬ (x6_41 = []) := fun h_ => c83 (by rw [h_]; rfl)
                            (first | rw [c83b0] | (simp only [i64_w, i32_w]; rw [c83b0]) | skip)
                            have H' := Aside0.mk H
                            clear H
                            obtain ⟨Ao88, co88, eo88⟩ := Kd.R_slice HO_6.out
                            subst eo88
                            go_wp2
                            go_meet
                            case rel => exact ⟨_, (false), (by first | rfl | (simp; done) | (simp [*]; done)), H', ⟨by have := HK1.out; have := HJ41.out; first | omega | exact Nat.le_refl _⟩, ⟨by (with_reducible repeat (first | apply Kd.R_alloc | apply Kd.R_drewN | apply Kd.R_drew)); exact HO_6.out⟩, ⟨by (with_reducible repeat (first | apply Kd.R_alloc | apply Kd.R_drewN | apply Kd.R_drew)); exact HO_109000.out⟩, ⟨by (with_reducible repeat (first | refine blk_drewN ?_ _ | refine blk_drew ?_ | refine blk_alloc ?_ _)); exact BK107.out⟩, ⟨by (with_reducible repeat (first | refine blk_drewN ?_ _ | refine blk_drew ?_ | refine blk_alloc ?_ _)); exact BK108.out⟩, ⟨by (with_reducible repeat (first | refine blk_drewN ?_ _ | refine blk_drew ?_ | refine blk_alloc ?_ _)); exact BK109.out⟩, ⟨by repeat (first | (with_reducible first | exact HB.out | apply below_alloc | apply pw_below_drewN | apply below_drew1 | refine below_set ?_ GE107.out | refine below_set ?_ GE108.out | refine below_set ?_ GE109.out) | exact HB.out)⟩⟩
                        case rest =>
                          clear HC82
                          try clear c1
                          try clear p1
                          try clear q1
                          try clear hx1
                          try clear c2
                          try clear p2
                          try clear c3
                          try clear c4
                          try clear c5
                          try clear c6
                          try clear p6
                          try clear q6
                          try clear hx6
                          try clear hf6
                          try clear c7
                          try clear q7
                          try clear hx7
                          try clear hf7
                          try clear c8
                          try clear c8b0
                          try clear c8b1
                          try clear c9
                          try clear c9b0
                          try clear c9b1
                          try clear c11
                          try clear c11b0
                          try clear p12
                          try clear q12
                          try clear hx12
                          try clear c13
                          try clear c14
                          try clear c20
                          try clear c22
                          try clear c24
                          try clear c24b0
                          try clear c24b1
                          try clear c25
                          try clear c25b0
                          try clear c25b1
                          try clear c27
                          try clear c28
                          try clear c29
                          try clear c30
                          try clear c34
                          try clear c35
                          try clear c36
                          try clear c43
                          try clear c44
                          try clear c48
                          try clear c54
                          try clear c54b0
                          try clear c54b1
                          try clear c55
                          try clear c55b0
                          try clear c55b1
                          try clear c56
                          try clear c56b0
                          try clear c56b1
                          try clear c58
                          try clear c60
                          try clear c60b0
                          try clear c61
                          try clear c61b0
                          try clear c62
                          try clear c62b0
                          try clear c63
                          try clear c63b0
                          try clear c64
                          try clear p64
                          try clear q64
                          try clear hx64
                          try clear hf64
                          try clear c65
                          try clear c65b0
                          try clear c65b1
                          try clear c67
                          try clear c68
                          try clear c70
                          try clear c73
                          try clear hx73
                          try clear hf73
                          try clear q75
                          try clear c78
                          try clear c79
                          try clear c83
                          try clear c83b0
                          try clear c83b1
                          try clear c83b2
                          try clear c85
                          try clear c86
                          try clear hcz15_0
                          try clear hcz17_0
                          try clear hcz21_0
                          try clear hcz31_0
                          try clear hcz33_0
                          try clear hcz35_0
                          try clear hcz38_0
                          try clear hcz39_0
                          try clear hcz41_0
                          try clear hcz45_0
                          try clear hcz47_0
                          try clear hcz49_0
                          try clear hcz52_0
                          try clear hcz53_0
                          try clear hcz69_0
                          try clear hcz71_0
                          try clear hcz76_0
                          try clear hcz7_0
                          try clear hcz80_0
                          try clear hcz87_0
                          try clear hfz15_0
                          try clear hfz17_0
                          try clear hfz21_0
                          try clear hfz31_0
                          try clear hfz33_0
                          try clear hfz35_0
                          try clear hfz38_0
                          try clear hfz39_0
                          try clear hfz41_0
                          try clear hfz45_0
                          try clear hfz47_0
                          try clear hfz49_0
                          try clear hfz52_0
                          try clear hfz53_0
                          try clear hfz69_0
                          try clear hfz71_0
                          try clear hfz76_0
                          try clear hfz7_0
                          try clear hfz80_0
                          try clear hfz87_0
                          try clear hx125_0
                          try clear hx64_0
                          try clear hx64_1
                          try clear hx64_2
                          try clear hx64_3
                          try clear hx73_3
                          try clear p1
                          try clear p12
                          try clear p125
                          try clear p2
                          try clear p6
                          try clear p64
                          try clear q1
                          try clear q12
                          try clear q125
                          try clear q6
                          try clear q64
                          try clear q7
                          try clear q75
                          obtain ⟨kq, x83_81, rfl, HA, HJ81, HO_6, HO_109000, BK107, BK108, BK109, HB⟩ := hcut
                          cases kq with
                          | zero => exact absurd HA.out (by simp [tree_Draw.j3])
                          | succ kj81 =>
                            have H := HA.out
                            clear HA
                            simp only [tree_Draw.j3] at H
                            by_cases c89 : x83_81 = true
                            · subst c89
                              have H1 : (some (x109000_41, 0, 0)) = some (r1, r2, r3) := by rw [if_pos rfl] at H; exact H
                              clear H
                              have H := H1
                              clear H1
                              simp only [Option.some.injEq, Prod.mk.injEq] at H
                              obtain ⟨rfl, rfl, rfl⟩ := H
                              have hnb90 := NB108_107.out
                              have hnc90 := NB107_108.out
                              have hnb91 := NB108_109.out
                              have hnc91 := NB109_108.out
                              have hcz92_0 : wc.cell? ⟨gb108, 0, none⟩ = some (u109000) := (blk_cell BK108.out 0).trans rfl
                              have hfz92_0 := blk_frozen BK108.out 0
                              obtain ⟨Ao93, co93, eo93⟩ := Kd.R_slice HO_109000.out
                              subst eo93
                              have hnb94 := NB107_109.out
                              have hnc94 := NB109_107.out
                              have hcz95_0 : wc.cell? ⟨gb107, 0, none⟩ = some (.slice none 0 0) := (blk_cell BK107.out 0).trans rfl
                              have hfz95_0 := blk_frozen BK107.out 0
                              go_wp2
                              refine bodyPost_ret (results_ctt rfl _ _ gb107 24 #[.slice Ao93 x109000_41.length co93] (0, 0) _ rfl (by (with_reducible repeat (first | refine blk_drewN ?_ _ | refine blk_drew ?_ | refine blk_alloc ?_ _)); refine blk_put (cs := #[.slice none 0 0]) ?_ 0 _ rfl; (with_reducible repeat (first | refine blk_drewN ?_ _ | refine blk_drew ?_ | refine blk_alloc ?_ _)); exact BK107.out) Tryd.underlying24 rfl (by kernel_rfl)) rfl ?_
                              exact ⟨_, by first | rfl | (simp [errW_none, errW_some] <;> rfl) | (simp only [← hji23]; first | rfl | (simp [errW_none, errW_some] <;> rfl)) | (simp [*, errW_none, errW_some] <;> rfl), by (with_reducible repeat (first | apply Kd.R_alloc | apply Kd.R_drewN | apply Kd.R_drew)); exact Kd.R_mono (Kd.R_far (p := ⟨gb107, 0, none⟩) (Kd.R_types HO_109000.out BK107.out (by decide)) (fun _ hk => hk.2) (.slice Ao93 x109000_41.length co93)) (fun _ hk => trivial), by repeat (first | (with_reducible first | exact HB.out | apply below_alloc | apply pw_below_drewN | apply below_drew1 | refine below_set ?_ GE107.out | refine below_set ?_ GE108.out | refine below_set ?_ GE109.out) | exact HB.out)⟩
                            · replace c89 := Bool.eq_false_iff.mpr c89
                              subst c89
                              have H1 : (if (x6_41.length : Int) = 0 then ((tree_fault.f kj81 x110000_41).bind fun bt130 => (some (bt130.1, bt130.2.1, bt130.2.2))) else (if 0 ≤ x110000_41 then (if x110000_41 ≤ (a0.size : Int) then ((strings_HasPrefix.f (a0.extract (x110000_41 : Int).toNat a0.size) (⟨#[32]⟩ : ByteArray)).bind fun t135 => (if t135 = true then (tree_Draw.l0 kj81 a0 x6_41 x109000_41 (wrap64 (x110000_41 + 1))) else ((tree_fault.f kj81 x110000_41).bind fun bt136 => (some (bt136.1, bt136.2.1, bt136.2.2))))) else (none)) else (none))) = some (r1, r2, r3) := by rw [if_neg (show ¬ (false = true) by decide)] at H; exact H
                              clear H
                              have H := H1
                              clear H1
                              by_cases c96 : (x6_41.length : Int) = 0
                              · rw [if_pos c96] at H
                                have c96b0 : ((x6_41.length : Int) == 0) = true := beq_iff_eq.mpr c96
                                have c96b1 : ((x6_41.length : Int) != 0) = false := bne_eq_false_iff_eq.mpr c96
                                clear c96
                                replace H := Option.bind_eq_some_iff.mp H
                                obtain ⟨⟨t130, t133, t134⟩, A970, H⟩ := H
                                replace H : (some (t130, t133, t134)) = some (r1, r2, r3) := H
                                have A97 := Aside0.mk A970
                                clear A970
                                simp only [Option.some.injEq, Prod.mk.injEq] at H
                                obtain ⟨rfl, rfl, rfl⟩ := H
                                obtain ⟨Ao98, co98, eo98⟩ := Kd.R_slice HO_6.out
                                subst eo98
                                have hnb99 := NB109_107.out
                                have hnc99 := NB107_109.out
                                have hnb100 := NB109_108.out
                                have hnc100 := NB108_109.out
                                have hcz101_0 : wc.cell? ⟨gb109, 0, none⟩ = some (.int .i64 x110000_41) := (blk_cell BK109.out 0).trans rfl
                                have hfz101_0 := blk_frozen BK109.out 0
                                have EG : ∀ args W, (callFunc 34 args).run Tryd.prog W = .ok (.enter 34 args) W := fun args W => enters_ Tryd.func34 (by kernel_rfl) rfl args W
                                go_wp2_with (fail)
                                refine (tree_fault.calls kj81 x110000_41 t130 t133 t134 _ A97.out gb109 (by (with_reducible repeat (first | refine blk_drewN ?_ _ | refine blk_drew ?_ | refine blk_alloc ?_ _)); exact BK109.out)).mono ?_
                                rintro e w102 ⟨v131, rfl, ho0, hb⟩
                                clear EG
                                have n0_ := Aside0.mk (Kd.R_below (by (with_reducible repeat (first | apply Kd.R_alloc | apply Kd.R_drewN | apply Kd.R_drew)); exact HO_6.out) hb)
                                have n1_ := Aside0.mk (Kd.R_elder' (by (with_reducible repeat (first | apply Kd.R_alloc | apply Kd.R_drewN | apply Kd.R_drew)); exact HO_109000.out) (Kd.R_base ho0) hb)
                                have n2_ := Aside0.mk (Kd.R_lower (Kd.R_new' ho0 (Kd.R_lt (by (with_reducible repeat (first | apply Kd.R_alloc | apply Kd.R_drewN | apply Kd.R_drew)); exact HO_109000.out))) (below_size (by repeat (first | (with_reducible first | exact HB.out | apply below_alloc | apply pw_below_drewN | apply below_drew1 | refine below_set ?_ GE107.out | refine below_set ?_ GE108.out | refine below_set ?_ GE109.out) | exact HB.out))))
                                have n3_ := Aside0.mk (blk_below (g := gb107) (o := .cells #[.slice none 0 0] 24 (0, 0)) (by (with_reducible repeat (first | refine blk_drewN ?_ _ | refine blk_drew ?_ | refine blk_alloc ?_ _)); exact BK107.out) hb)
                                have n4_ := Aside0.mk (blk_below (g := gb108) (o := .cells #[u109000] 24 (0, 0)) (by (with_reducible repeat (first | refine blk_drewN ?_ _ | refine blk_drew ?_ | refine blk_alloc ?_ _)); exact BK108.out) hb)
                                have n5_ := Aside0.mk (blk_below (g := gb109) (o := .cells #[.int .i64 x110000_41] 3 (0, 0)) (by (with_reducible repeat (first | refine blk_drewN ?_ _ | refine blk_drew ?_ | refine blk_alloc ?_ _)); exact BK109.out) hb)
                                have n6_ := Aside0.mk (below_step (by repeat (first | (with_reducible first | exact HB.out | apply below_alloc | apply pw_below_drewN | apply below_drew1 | refine below_set ?_ GE107.out | refine below_set ?_ GE108.out | refine below_set ?_ GE109.out) | exact HB.out)) hb)
                                clear HO_6
                                clear HO_109000
                                clear BK107
                                clear BK108
                                clear BK109
                                clear HB
                                have HO_6 := n0_
                                have HO_109000 := n1_
                                have HO132 := n2_
                                have BK107 := n3_
                                have BK108 := n4_
                                have BK109 := n5_
                                have HB := n6_
                                clear n0_ n1_ n2_ n3_ n4_ n5_ n6_
                                (try clear hb)
                                (try clear hb2)
                                (try clear hk)
                                (try clear hi)
                                (try clear ho0)
                                obtain ⟨Ao103, co103, eo103⟩ := Kd.R_slice HO132.out
                                subst eo103
                                have hnb104 := NB107_108.out
                                have hnc104 := NB108_107.out
                                have hcz105_0 : w102.cell? ⟨gb107, 0, none⟩ = some (.slice none 0 0) := (blk_cell BK107.out 0).trans rfl
                                have hfz105_0 := blk_frozen BK107.out 0
                                go_wp2
                                refine bodyPost_ret (results_ctt rfl _ _ gb107 24 #[.slice Ao103 t130.length co103] (0, 0) _ rfl (by (with_reducible repeat (first | refine blk_drewN ?_ _ | refine blk_drew ?_ | refine blk_alloc ?_ _)); refine blk_put (cs := #[.slice none 0 0]) ?_ 0 _ rfl; (with_reducible repeat (first | refine blk_drewN ?_ _ | refine blk_drew ?_ | refine blk_alloc ?_ _)); exact BK107.out) Tryd.underlying24 rfl (by kernel_rfl)) rfl ?_
                                exact ⟨_, by first | rfl | (simp [errW_none, errW_some] <;> rfl) | (simp only [← hji23]; first | rfl | (simp [errW_none, errW_some] <;> rfl)) | (simp [*, errW_none, errW_some] <;> rfl), by (with_reducible repeat (first | apply Kd.R_alloc | apply Kd.R_drewN | apply Kd.R_drew)); exact Kd.R_mono (Kd.R_far (p := ⟨gb107, 0, none⟩) (Kd.R_types HO132.out BK107.out (by decide)) (fun _ hk => hk.2) (.slice Ao103 t130.length co103)) (fun _ hk => trivial), by repeat (first | (with_reducible first | exact HB.out | apply below_alloc | apply pw_below_drewN | apply below_drew1 | refine below_set ?_ GE107.out | refine below_set ?_ GE108.out | refine below_set ?_ GE109.out) | exact HB.out)⟩
                              · rw [if_neg c96] at H
                                have c96b0 : ((x6_41.length : Int) == 0) = false := beq_eq_false_iff_ne.mpr c96
                                have c96b1 : ((x6_41.length : Int) != 0) = true := bne_iff_ne.mpr c96
                                have c96b2 : ¬ (x6_41 = []) := fun h_ => c96 (by rw [h_]; rfl)
                                by_cases c106 : 0 ≤ x110000_41
                                · rw [if_pos c106] at H
                                  have c106b0 := eq_true c106
                                  have c106b1 : decide (0 ≤ x110000_41) = true := decide_eq_true c106
                                  clear c106
                                  by_cases c107 : x110000_41 ≤ (a0.size : Int)
                                  · rw [if_pos c107] at H
                                    have c107b0 := eq_true c107
                                    have c107b1 : decide (x110000_41 ≤ (a0.size : Int)) = true := decide_eq_true c107
                                    clear c107
                                    replace H := Option.bind_eq_some_iff.mp H
                                    obtain ⟨t135, A1080, H⟩ := H
                                    replace H : (if t135 = true then (tree_Draw.l0 kj81 a0 x6_41 x109000_41 (wrap64 (x110000_41 + 1))) else ((tree_fault.f kj81 x110000_41).bind fun bt136 => (some (bt136.1, bt136.2.1, bt136.2.2)))) = some (r1, r2, r3) := H
                                    have A108 := Aside0.mk A1080
                                    clear A1080
                                    by_cases c109 : t135 = true
                                    · subst c109
                                      have H1 : (tree_Draw.l0 kj81 a0 x6_41 x109000_41 (wrap64 (x110000_41 + 1))) = some (r1, r2, r3) := by rw [if_pos rfl] at H; exact H
                                      clear H
                                      have H := H1
                                      clear H1
                                      have H' := Aside0.mk H
                                      clear H
                                      obtain ⟨Ao110, co110, eo110⟩ := Kd.R_slice HO_6.out
                                      subst eo110
                                      have hnb111 := NB109_107.out
                                      have hnc111 := NB107_109.out
                                      have hnb112 := NB109_108.out
                                      have hnc112 := NB108_109.out
                                      have hcz113_0 : wc.cell? ⟨gb109, 0, none⟩ = some (.int .i64 x110000_41) := (blk_cell BK109.out 0).trans rfl
                                      have hfz113_0 := blk_frozen BK109.out 0
                                      go_wp2_with (first | (go_at_call 36; (with_reducible refine (strings_HasPrefix.calls (a0.extract (x110000_41 : Int).toNat a0.size) (⟨#[32]⟩ : ByteArray) true _ A108.out).mono ?_); rintro e w' ⟨rfl, ⟨nd, rfl⟩⟩; (try (rw [drewN_self wc]; generalize hq_ : World.drewN wc _ = wc; have n0_ : Aside0 (Kd.R k43 43 wc w.heap.size (fun _ => True) u109000 x109000_41) := ⟨by rw [← hq_]; exact (by (with_reducible repeat (first | apply Kd.R_alloc | apply Kd.R_drewN | apply Kd.R_drew)); exact HO_109000.out)⟩; have n1_ : Aside0 (Kd.R (Kd.int .i64) 3 wc w.heap.size (fun k_ => k_ ≠ gb109) (.slice Ao110 x6_41.length co110) x6_41) := ⟨by rw [← hq_]; exact (by (with_reducible repeat (first | apply Kd.R_alloc | apply Kd.R_drewN | apply Kd.R_drew)); exact HO_6.out)⟩; have n2_ : Aside0 (wc.heap[gb107]? = some (.cells #[.slice none 0 0] 24 (0, 0))) := ⟨by rw [← hq_]; exact (by (with_reducible repeat (first | refine blk_drewN ?_ _ | refine blk_drew ?_ | refine blk_alloc ?_ _)); exact BK107.out)⟩; have n3_ : Aside0 (wc.heap[gb108]? = some (.cells #[u109000] 24 (0, 0))) := ⟨by rw [← hq_]; exact (by (with_reducible repeat (first | refine blk_drewN ?_ _ | refine blk_drew ?_ | refine blk_alloc ?_ _)); exact BK108.out)⟩; have n4_ : Aside0 (wc.heap[gb109]? = some (.cells #[.int .i64 x110000_41] 3 (0, 0))) := ⟨by rw [← hq_]; exact (by (with_reducible repeat (first | refine blk_drewN ?_ _ | refine blk_drew ?_ | refine blk_alloc ?_ _)); exact BK109.out)⟩; have n5_ : Aside0 (Below w.heap.size w wc) := ⟨by rw [← hq_]; exact (by repeat (first | (with_reducible first | exact HB.out | apply below_alloc | apply pw_below_drewN | apply below_drew1 | refine below_set ?_ GE107.out | refine below_set ?_ GE108.out | refine below_set ?_ GE109.out) | exact HB.out))⟩; clear HO_109000 HO_6 BK107 BK108 BK109 HB hq_; have HO_109000 := n0_; have HO_6 := n1_; have BK107 := n2_; have BK108 := n3_; have BK109 := n4_; have HB := n5_; clear n0_ n1_ n2_ n3_ n4_ n5_; have hcz_9 : wc.cell? ⟨gb109, 0, none⟩ = some (.int .i64 x110000_41) := (blk_cell BK109.out 0).trans rfl; have hfz_9 := blk_frozen BK109.out 0))))
                                      go_roundg kj81
                                      case measure => have := HK1.out; have := HJ41.out; have := HJ81.out; omega
                                      case rel => exact ⟨(x6_41), (x109000_41), (wrap64 (x110000_41 + 1)), (u109000), H', ⟨by have := HK1.out; have := HJ41.out; have := HJ81.out; omega⟩, ⟨by (with_reducible repeat (first | apply Kd.R_alloc | apply Kd.R_drewN | apply Kd.R_drew)); exact Kd.R_mono (Kd.R_far (p := ⟨gb109, 0, none⟩) (Kd.R_mono HO_6.out (fun k_ hk => (⟨hk, hk⟩ : _ ∧ k_ ≠ gb109))) (fun _ hk => hk.2) (.int .i64 (wrap64 (x110000_41 + 1)))) (fun _ hk => hk.1)⟩, ⟨by (with_reducible repeat (first | apply Kd.R_alloc | apply Kd.R_drewN | apply Kd.R_drew)); exact Kd.R_mono (Kd.R_far (p := ⟨gb109, 0, none⟩) (Kd.R_types HO_109000.out BK109.out (by decide)) (fun _ hk => hk.2) (.int .i64 (wrap64 (x110000_41 + 1)))) (fun _ hk => trivial)⟩, ⟨by (with_reducible repeat (first | refine blk_drewN ?_ _ | refine blk_drew ?_ | refine blk_alloc ?_ _)); refine blk_far ?_ NB107_109.out _; (with_reducible repeat (first | refine blk_drewN ?_ _ | refine blk_drew ?_ | refine blk_alloc ?_ _)); exact BK107.out⟩, ⟨by (with_reducible repeat (first | refine blk_drewN ?_ _ | refine blk_drew ?_ | refine blk_alloc ?_ _)); refine blk_far ?_ NB108_109.out _; (with_reducible repeat (first | refine blk_drewN ?_ _ | refine blk_drew ?_ | refine blk_alloc ?_ _)); exact BK108.out⟩, ⟨by (with_reducible repeat (first | refine blk_drewN ?_ _ | refine blk_drew ?_ | refine blk_alloc ?_ _)); refine blk_put (cs := #[.int .i64 x110000_41]) ?_ 0 _ rfl; (with_reducible repeat (first | refine blk_drewN ?_ _ | refine blk_drew ?_ | refine blk_alloc ?_ _)); exact BK109.out⟩, ⟨by repeat (first | (with_reducible first | exact HB.out | apply below_alloc | apply pw_below_drewN | apply below_drew1 | refine below_set ?_ GE107.out | refine below_set ?_ GE108.out | refine below_set ?_ GE109.out) | exact HB.out)⟩⟩
                                    · replace c109 := Bool.eq_false_iff.mpr c109
                                      subst c109
                                      have H1 : ((tree_fault.f kj81 x110000_41).bind fun bt136 => (some (bt136.1, bt136.2.1, bt136.2.2))) = some (r1, r2, r3) := by rw [if_neg (show ¬ (false = true) by decide)] at H; exact H
                                      clear H
                                      have H := H1
                                      clear H1
                                      replace H := Option.bind_eq_some_iff.mp H
                                      obtain ⟨⟨t136, t139, t140⟩, A1140, H⟩ := H
                                      replace H : (some (t136, t139, t140)) = some (r1, r2, r3) := H
                                      have A114 := Aside0.mk A1140
                                      clear A1140
                                      simp only [Option.some.injEq, Prod.mk.injEq] at H
                                      obtain ⟨rfl, rfl, rfl⟩ := H
                                      obtain ⟨Ao115, co115, eo115⟩ := Kd.R_slice HO_6.out
                                      subst eo115
                                      have hnb116 := NB109_107.out
                                      have hnc116 := NB107_109.out
                                      have hnb117 := NB109_108.out
                                      have hnc117 := NB108_109.out
                                      have hcz118_0 : wc.cell? ⟨gb109, 0, none⟩ = some (.int .i64 x110000_41) := (blk_cell BK109.out 0).trans rfl
                                      have hfz118_0 := blk_frozen BK109.out 0
                                      have EG : ∀ args W, (callFunc 34 args).run Tryd.prog W = .ok (.enter 34 args) W := fun args W => enters_ Tryd.func34 (by kernel_rfl) rfl args W
                                      go_wp2_with (first | (go_at_call 36; (with_reducible refine (strings_HasPrefix.calls (a0.extract (x110000_41 : Int).toNat a0.size) (⟨#[32]⟩ : ByteArray) false _ A108.out).mono ?_); rintro e w' ⟨rfl, ⟨nd, rfl⟩⟩; (try (rw [drewN_self wc]; generalize hq_ : World.drewN wc _ = wc; have n0_ : Aside0 (Kd.R k43 43 wc w.heap.size (fun _ => True) u109000 x109000_41) := ⟨by rw [← hq_]; exact (by (with_reducible repeat (first | apply Kd.R_alloc | apply Kd.R_drewN | apply Kd.R_drew)); exact HO_109000.out)⟩; have n1_ : Aside0 (Kd.R (Kd.int .i64) 3 wc w.heap.size (fun k_ => k_ ≠ gb109) (.slice Ao115 x6_41.length co115) x6_41) := ⟨by rw [← hq_]; exact (by (with_reducible repeat (first | apply Kd.R_alloc | apply Kd.R_drewN | apply Kd.R_drew)); exact HO_6.out)⟩; have n2_ : Aside0 (wc.heap[gb107]? = some (.cells #[.slice none 0 0] 24 (0, 0))) := ⟨by rw [← hq_]; exact (by (with_reducible repeat (first | refine blk_drewN ?_ _ | refine blk_drew ?_ | refine blk_alloc ?_ _)); exact BK107.out)⟩; have n3_ : Aside0 (wc.heap[gb108]? = some (.cells #[u109000] 24 (0, 0))) := ⟨by rw [← hq_]; exact (by (with_reducible repeat (first | refine blk_drewN ?_ _ | refine blk_drew ?_ | refine blk_alloc ?_ _)); exact BK108.out)⟩; have n4_ : Aside0 (wc.heap[gb109]? = some (.cells #[.int .i64 x110000_41] 3 (0, 0))) := ⟨by rw [← hq_]; exact (by (with_reducible repeat (first | refine blk_drewN ?_ _ | refine blk_drew ?_ | refine blk_alloc ?_ _)); exact BK109.out)⟩; have n5_ : Aside0 (Below w.heap.size w wc) := ⟨by rw [← hq_]; exact (by repeat (first | (with_reducible first | exact HB.out | apply below_alloc | apply pw_below_drewN | apply below_drew1 | refine below_set ?_ GE107.out | refine below_set ?_ GE108.out | refine below_set ?_ GE109.out) | exact HB.out))⟩; clear HO_109000 HO_6 BK107 BK108 BK109 HB hq_; have HO_109000 := n0_; have HO_6 := n1_; have BK107 := n2_; have BK108 := n3_; have BK109 := n4_; have HB := n5_; clear n0_ n1_ n2_ n3_ n4_ n5_; have hcz_9 : wc.cell? ⟨gb109, 0, none⟩ = some (.int .i64 x110000_41) := (blk_cell BK109.out 0).trans rfl; have hfz_9 := blk_frozen BK109.out 0))))
                                      refine (tree_fault.calls kj81 x110000_41 t136 t139 t140 _ A114.out gb109 (by (with_reducible repeat (first | refine blk_drewN ?_ _ | refine blk_drew ?_ | refine blk_alloc ?_ _)); exact BK109.out)).mono ?_
                                      rintro e w119 ⟨v137, rfl, ho0, hb⟩
                                      clear EG
                                      have n0_ := Aside0.mk (Kd.R_below (by (with_reducible repeat (first | apply Kd.R_alloc | apply Kd.R_drewN | apply Kd.R_drew)); exact HO_6.out) hb)
                                      have n1_ := Aside0.mk (Kd.R_elder' (by (with_reducible repeat (first | apply Kd.R_alloc | apply Kd.R_drewN | apply Kd.R_drew)); exact HO_109000.out) (Kd.R_base ho0) hb)
                                      have n2_ := Aside0.mk (Kd.R_lower (Kd.R_new' ho0 (Kd.R_lt (by (with_reducible repeat (first | apply Kd.R_alloc | apply Kd.R_drewN | apply Kd.R_drew)); exact HO_109000.out))) (below_size (by repeat (first | (with_reducible first | exact HB.out | apply below_alloc | apply pw_below_drewN | apply below_drew1 | refine below_set ?_ GE107.out | refine below_set ?_ GE108.out | refine below_set ?_ GE109.out) | exact HB.out))))
                                      have n3_ := Aside0.mk (blk_below (g := gb107) (o := .cells #[.slice none 0 0] 24 (0, 0)) (by (with_reducible repeat (first | refine blk_drewN ?_ _ | refine blk_drew ?_ | refine blk_alloc ?_ _)); exact BK107.out) hb)
                                      have n4_ := Aside0.mk (blk_below (g := gb108) (o := .cells #[u109000] 24 (0, 0)) (by (with_reducible repeat (first | refine blk_drewN ?_ _ | refine blk_drew ?_ | refine blk_alloc ?_ _)); exact BK108.out) hb)
                                      have n5_ := Aside0.mk (blk_below (g := gb109) (o := .cells #[.int .i64 x110000_41] 3 (0, 0)) (by (with_reducible repeat (first | refine blk_drewN ?_ _ | refine blk_drew ?_ | refine blk_alloc ?_ _)); exact BK109.out) hb)
                                      have n6_ := Aside0.mk (below_step (by repeat (first | (with_reducible first | exact HB.out | apply below_alloc | apply pw_below_drewN | apply below_drew1 | refine below_set ?_ GE107.out | refine below_set ?_ GE108.out | refine below_set ?_ GE109.out) | exact HB.out)) hb)
                                      clear HO_6
                                      clear HO_109000
                                      clear BK107
                                      clear BK108
                                      clear BK109
                                      clear HB
                                      have HO_6 := n0_
                                      have HO_109000 := n1_
                                      have HO138 := n2_
                                      have BK107 := n3_
                                      have BK108 := n4_
                                      have BK109 := n5_
                                      have HB := n6_
                                      clear n0_ n1_ n2_ n3_ n4_ n5_ n6_
                                      (try clear hb)
                                      (try clear hb2)
                                      (try clear hk)
                                      (try clear hi)
                                      (try clear ho0)
                                      obtain ⟨Ao120, co120, eo120⟩ := Kd.R_slice HO138.out
                                      subst eo120
                                      have hnb121 := NB107_108.out
                                      have hnc121 := NB108_107.out
                                      have hcz122_0 : w119.cell? ⟨gb107, 0, none⟩ = some (.slice none 0 0) := (blk_cell BK107.out 0).trans rfl
                                      have hfz122_0 := blk_frozen BK107.out 0
                                      go_wp2
                                      refine bodyPost_ret (results_ctt rfl _ _ gb107 24 #[.slice Ao120 t136.length co120] (0, 0) _ rfl (by (with_reducible repeat (first | refine blk_drewN ?_ _ | refine blk_drew ?_ | refine blk_alloc ?_ _)); refine blk_put (cs := #[.slice none 0 0]) ?_ 0 _ rfl; (with_reducible repeat (first | refine blk_drewN ?_ _ | refine blk_drew ?_ | refine blk_alloc ?_ _)); exact BK107.out) Tryd.underlying24 rfl (by kernel_rfl)) rfl ?_
                                      exact ⟨_, by first | rfl | (simp [errW_none, errW_some] <;> rfl) | (simp only [← hji23]; first | rfl | (simp [errW_none, errW_some] <;> rfl)) | (simp [*, errW_none, errW_some] <;> rfl), by (with_reducible repeat (first | apply Kd.R_alloc | apply Kd.R_drewN | apply Kd.R_drew)); exact Kd.R_mono (Kd.R_far (p := ⟨gb107, 0, none⟩) (Kd.R_types HO138.out BK107.out (by decide)) (fun _ hk => hk.2) (.slice Ao120 t136.length co120)) (fun _ hk => trivial), by repeat (first | (with_reducible first | exact HB.out | apply below_alloc | apply pw_below_drewN | apply below_drew1 | refine below_set ?_ GE107.out | refine below_set ?_ GE108.out | refine below_set ?_ GE109.out) | exact HB.out)⟩
                                  · rw [if_neg c107] at H
                                    exact absurd H (by simp)
                                · rw [if_neg c106] at H
                                  exact absurd H (by simp)
                · rw [if_neg c25] at H
                  exact absurd H (by simp)
              · rw [if_neg c24] at H
                exact absurd H (by simp)
            · rw [if_neg c22] at H
              exact absurd H (by simp)
        · rw [if_neg c9] at H
          exact absurd H (by simp)
      · rw [if_neg c8] at H
        exact absurd H (by simp)

end Go.Proofs.YtodldpdnhcafpaaDoor.F
