/- Texts of the proof of one law (Shapes), part 0: functions printed as Lean functions with their walks, and what is proved of them. Conditions: those of each theorem. -/
import Derived.Test.YtodldpdnhcafpaaDoorWMore
import Derived.Deep.MidRow
import Derived.Test.YtodldpdnhcafpaaDoorProg
import Derived.Test.YtodldpdnhcafpaaDoorWWords
import Derived.Below
import Derived.Deep.Draws
import Derived.Deep.AppendLies
import Derived.Maps.AppendAt
import Derived.OwnWalk
import Derived.Laws.BytesArg
import Derived.Laws.MakeOwn
import Derived.Laws.OwnMore
import Derived.Deep.OwnRows
import Derived.Tactics
import Derived.Lib.ConvBytes
import Derived.Laws.Slices
import Derived.WalkKit
import Derived.KernelRfl
import Derived.RowKit3
import Derived.Deep.LoopGhost
import Derived.Deep.QuietTactic
import Derived.BigQuiet
import Derived.WideLaws
import Derived.Deep.DeepCutAuto
import Derived.Deep.CutBlock
import Derived.Deep.RegionHeld3
import Derived.Laws.Rows
import Derived.Lib.AppendStr
import Derived.ArgAppend
import Derived.Laws.IdiomCopy
import Derived.OrdersHeld
import Derived.Laws.BitsLemmas
import Derived.WalkMore
import Derived.RowKit
import Derived.Test.YtodldpdnhcafpaaDoorWLast
import Derived.Test.YtodldpdnhcafpaaDoorWTab
import Derived.Test.YtodldpdnhcafpaaDoorWFour
import Derived.Test.YtodldpdnhcafpaaDoorWQPut
import Derived.Test.YtodldpdnhcafpaaDoorWApart
import Derived.Test.YtodldpdnhcafpaaDoorWArr
import Derived.Test.YtodldpdnhcafpaaDoorWZeros
import Derived.Test.YtodldpdnhcafpaaDoorWFoot
import Derived.Test.YtodldpdnhcafpaaDoorWKept
import Derived.Test.YtodldpdnhcafpaaDoorWShare
import Derived.Test.YtodldpdnhcafpaaDoorWN
import Derived.Test.YtodldpdnhcafpaaDoorWFootNe
import Derived.Test.YtodldpdnhcafpaaDoorWAt
import Derived.Test.YtodldpdnhcafpaaDoorWEqStruct
import Derived.Test.YtodldpdnhcafpaaDoorWRepsOne
import Derived.Test.YtodldpdnhcafpaaDoorWInv
import Derived.Test.YtodldpdnhcafpaaDoorWInvWords
import Derived.Test.YtodldpdnhcafpaaDoorWGuard
import Derived.Test.YtodldpdnhcafpaaDoorWNEv
import Derived.Lib.Strings
import Derived.BigRegion
import Derived.Shelf.Strings.Builder1
import Derived.Shelf.Strings.BuilderF
import Derived.Shelf.Strings.BuilderK
-- made by wip/mkgtab.py: the table of the kinds' names, in its two package variables: what their cells hold
namespace Go.Proofs.YtodldpdnhcafpaaDoor.F
open Go.RowKit Go.Proofs.YtodldpdnhcafpaaDoorW.PrintWords Go.Proofs.YtodldpdnhcafpaaDoorW.PrintLast Go.Proofs.YtodldpdnhcafpaaDoorW.PrintMore
set_option linter.unusedVariables false
set_option linter.unusedSimpArgs false
/-- The kinds' names. -/
def tabG0 : List ByteArray := [⟨#[78, 111, 110, 101]⟩, ⟨#[76, 105, 115, 116]⟩, ⟨#[70, 105, 108, 101]⟩, ⟨#[73, 109, 112, 111, 114, 116]⟩, ⟨#[73, 109, 112, 111, 114, 116, 83, 112, 101, 99]⟩, ⟨#[67, 111, 110, 115, 116]⟩, ⟨#[86, 97, 114]⟩, ⟨#[84, 121, 112, 101, 115]⟩, ⟨#[67, 111, 110, 115, 116, 83, 112, 101, 99]⟩, ⟨#[86, 97, 114, 83, 112, 101, 99]⟩, ⟨#[84, 121, 112, 101, 83, 112, 101, 99]⟩, ⟨#[70, 117, 110, 99]⟩, ⟨#[82, 101, 99, 118]⟩, ⟨#[83, 105, 103]⟩, ⟨#[80, 97, 114, 97, 109]⟩, ⟨#[83, 116, 114, 117, 99, 116]⟩, ⟨#[70, 105, 101, 108, 100]⟩, ⟨#[69, 109, 98, 101, 100]⟩, ⟨#[73, 110, 116, 101, 114, 102, 97, 99, 101]⟩, ⟨#[77, 101, 116, 104, 111, 100]⟩, ⟨#[83, 104, 97, 112, 101]⟩, ⟨#[83, 116, 97, 114]⟩, ⟨#[83, 108, 105, 99, 101, 79, 102]⟩, ⟨#[77, 97, 112, 79, 102]⟩, ⟨#[70, 117, 110, 99, 79, 102]⟩, ⟨#[80, 97, 114, 101, 110]⟩, ⟨#[83, 101, 108, 101, 99, 116]⟩, ⟨#[66, 108, 111, 99, 107]⟩, ⟨#[73, 102]⟩, ⟨#[83, 119, 105, 116, 99, 104]⟩, ⟨#[77, 97, 116, 99, 104]⟩, ⟨#[67, 97, 115, 101]⟩, ⟨#[68, 101, 102, 97, 117, 108, 116]⟩, ⟨#[70, 111, 114]⟩, ⟨#[82, 97, 110, 103, 101]⟩, ⟨#[76, 97, 98, 101, 108]⟩, ⟨#[82, 101, 116, 117, 114, 110]⟩, ⟨#[66, 114, 101, 97, 107]⟩, ⟨#[67, 111, 110, 116, 105, 110, 117, 101]⟩, ⟨#[70, 97, 108, 108]⟩, ⟨#[69, 109, 112, 116, 121]⟩, ⟨#[68, 111]⟩, ⟨#[83, 116, 101, 112]⟩, ⟨#[65, 115, 115, 105, 103, 110]⟩, ⟨#[68, 101, 102, 105, 110, 101]⟩, ⟨#[78, 97, 109, 101]⟩, ⟨#[78, 117, 109, 98, 101, 114]⟩, ⟨#[67, 104, 97, 114]⟩, ⟨#[84, 101, 120, 116]⟩, ⟨#[66, 105, 110, 97, 114, 121]⟩, ⟨#[83, 105, 103, 110]⟩, ⟨#[73, 110, 100, 101, 120]⟩, ⟨#[83, 108, 105, 99, 101]⟩, ⟨#[65, 115, 115, 101, 114, 116]⟩, ⟨#[67, 97, 108, 108]⟩, ⟨#[70, 117, 110, 99, 76, 105, 116]⟩, ⟨#[67, 111, 109, 112, 111, 115, 105, 116, 101]⟩, ⟨#[80, 97, 105, 114]⟩]
abbrev tabG1 : List ByteArray := tabG0
theorem tab_len : tabG0.length = 58 := rfl
/-- Both variables hold them. -/
structure SG (w : World) : Prop where
  g0 : Kd.string.C w (some ⟨0, 0, none⟩) 58 tabG0
  g1 : Kd.string.C w (some ⟨1, 0, none⟩) 58 tabG1
theorem SG.below {w w' : World} (h : SG w) (hb : Below w.heap.size w w') : SG w' := ⟨Kd.C_below h.g0 hb, Kd.C_below h.g1 hb⟩
/-- The table, as one value. -/
theorem tab_range {w : World} (h : Kd.string.C w (some ⟨0, 0, none⟩) 58 tabG0) : w.rangeAt 0 0 (tabG0.map Value.string) := fun j v hj => by
  rw [List.getElem?_map, Option.map_eq_some_iff] at hj
  obtain ⟨s, hs, rfl⟩ := hj
  have hl : j < 58 := by have := (List.getElem?_eq_some_iff.1 hs).1; rw [tab_len] at this; exact this
  obtain ⟨ad, e, hx⟩ := Kd.at_string h (j : Int) (by omega) (by omega)
  obtain rfl : (⟨0, 0, none⟩ : Addr) = ad := by injection e
  rw [Int.toNat_natCast, Addr.add_mid] at hx
  rw [hx]
  simp [rdOf, List.getD_eq_getElem?_getD, hs]
theorem tab_at {i : Int} (h0 : 0 ≤ i) (h1 : i < 58) : (tabG0.map Value.string).toArray[i.toNat]? = some (.string (rdOf ByteArray.empty tabG0 i)) := by
  have hl : i.toNat < tabG0.length := by rw [tab_len]; omega
  simp [rdOf, List.getD_eq_getElem?_getD, hl]
/-- An element of the table as one value. -/
theorem tab_index (i : Int) (h0 : 0 ≤ i) (h1 : i < 58) : ∀ w : World, (Instr.index 87 (.agg (tabG0.map Value.string).toArray) (.int .i64 i)).run Tryd.prog w = .ok (.string (rdOf ByteArray.empty tabG0 i)) w := fun w => by
  have hx := tab_at h0 h1
  have hn : (0 ≤ i ∧ i < ((58 : Nat) : Int)) := by omega
  obtain ⟨i9, hi9⟩ : ∃ j, Tryd.prog.info? 9 = some j := ⟨_, Option.eq_some_of_isSome (by kernel_rfl)⟩
  have hz : i9.size = 1 := by
    have : (Tryd.prog.info? 9).map (·.size) = some 1 := by kernel_rfl
    rw [hi9] at this
    exact Option.some.inj this
  have hagg : (isAgg 9).run Tryd.prog w = .ok false w := by
    unfold isAgg
    rw [Sem.run_bind, run_underlying Tryd.underlying9 w]
    rfl
  simp only [Instr.index, asIntOf, Sem.run_bind, Sem.run_pure, Result.andThen_ok, run_underlying Tryd.underlying87 w]
  rw [if_pos hn]
  have hx' : Option.map Value.string tabG0[i.toNat]? = some (Value.string (rdOf ByteArray.empty tabG0 i)) := by simpa using hx
  simp [part, sizeOf, typeInfo, hi9, hz, hagg, Sem.run_bind, go_sem]
  rw [hx']
  rfl
end Go.Proofs.YtodldpdnhcafpaaDoor.F

-- A text of this session's own program (wip/myprint.sh over a changed print tool): functions and their walks
namespace Go.Proofs.YtodldpdnhcafpaaDoor.F
open Go.RowKit Go.Proofs.YtodldpdnhcafpaaDoorW.PrintWords Go.Proofs.YtodldpdnhcafpaaDoorW.PrintLast Go.Proofs.YtodldpdnhcafpaaDoorW.PrintMore
attribute [local go_sem] max2_int min2_int max_two min_two max_three min_three max_four min_four   -- for this text's walks alone
set_option linter.unusedVariables false
set_option linter.unusedSimpArgs false



def errW : Option Int → Value
  | none => .nilIface
  | some c => .iface 0 (.int .i64 c)
theorem errW_none : errW none = .nilIface := rfl
theorem errW_some (c : Int) : errW (some c) = .iface 0 (.int .i64 c) := rfl

theorem info3 : (Tryd.prog.info? 3).map (fun i => (i.zero, i.size, i.bytes)) = some (some (.int .i64 0), 1, 8) := by kernel_rfl
theorem info43 : (Tryd.prog.info? 43).map (fun i => (i.zero, i.size, i.bytes)) = some (some (.agg #[(.int .u8 0), (.int .i64 0), (.int .i64 0), (.int .i64 0)]), 4, 32) := by kernel_rfl
-- the values' own types
/-! #### struct type 43 -/
structure S43 where
  f0 : Int
  f1 : Int
  f2 : Int
  f3 : Int
def z43 : S43 := ⟨(0 : Int), (0 : Int), (0 : Int), (0 : Int)⟩
def k43 : Kd S43 := Kd.iso (Kd.pair (Kd.int .u8) (Kd.pair (Kd.int .i64) (Kd.pair (Kd.int .i64) (Kd.int .i64)))) (fun x : S43 => (x.f0, x.f1, x.f2, x.f3))
theorem k43_open {w : World} {x : S43} {cs : List Value} (h : k43.K w x cs) : cs = [.int .u8 x.f0, .int .i64 x.f1, .int .i64 x.f2, .int .i64 x.f3] := by
  obtain ⟨_, _, rfl, rfl, ⟨_, _, rfl, rfl, ⟨_, _, rfl, rfl, rfl⟩⟩⟩ := h
  exact rfl
theorem k43_openM {w : World} {base : Nat} {ok : Nat → Prop} {x : S43} {cs : List Value} (h : k43.M w base ok x cs) : cs = [.int .u8 x.f0, .int .i64 x.f1, .int .i64 x.f2, .int .i64 x.f3] := by
  obtain ⟨_, _, rfl, rfl, ⟨_, _, rfl, rfl, ⟨_, _, rfl, rfl, rfl⟩⟩⟩ := h
  exact rfl
theorem k43_mk (w : World) (x : S43)  : k43.K w x [.int .u8 x.f0, .int .i64 x.f1, .int .i64 x.f2, .int .i64 x.f3] := ⟨[.int .u8 x.f0], [.int .i64 x.f1, .int .i64 x.f2, .int .i64 x.f3], rfl, rfl, ⟨[.int .i64 x.f1], [.int .i64 x.f2, .int .i64 x.f3], rfl, rfl, ⟨[.int .i64 x.f2], [.int .i64 x.f3], rfl, rfl, rfl⟩⟩⟩
theorem k43_mkM (w : World) (base : Nat) (ok : Nat → Prop) (x : S43)  : k43.M w base ok x [.int .u8 x.f0, .int .i64 x.f1, .int .i64 x.f2, .int .i64 x.f3] := ⟨[.int .u8 x.f0], [.int .i64 x.f1, .int .i64 x.f2, .int .i64 x.f3], rfl, rfl, ⟨[.int .i64 x.f1], [.int .i64 x.f2, .int .i64 x.f3], rfl, rfl, ⟨[.int .i64 x.f2], [.int .i64 x.f3], rfl, rfl, rfl⟩⟩⟩
def rd_T43 (xs : List S43) (i : Int) : S43 := xs.getD i.toNat z43
theorem at_T43 {w : World} {A : Option Addr} {n : Nat} {xs : List S43} (h : Kd.C k43 w A n xs) (i : Int) (h0 : 0 ≤ i) (h1 : i < n) : ∃ ad , A = some ad ∧ w.cell? (ad.add (i.toNat * 4)) = some (.int .u8 (rd_T43 xs i).f0) ∧ w.cell? ⟨(ad.add (i.toNat * 4)).block, (ad.add (i.toNat * 4)).off + 1, none⟩ = some (.int .i64 (rd_T43 xs i).f1) ∧ w.cell? ⟨(ad.add (i.toNat * 4)).block, (ad.add (i.toNat * 4)).off + 2, none⟩ = some (.int .i64 (rd_T43 xs i).f2) ∧ w.cell? ⟨(ad.add (i.toNat * 4)).block, (ad.add (i.toNat * 4)).off + 3, none⟩ = some (.int .i64 (rd_T43 xs i).f3) := by
  obtain ⟨ad, c, e, _, hK, hc0⟩ := Kd.C_get h z43 i h0 h1
  have hc : ∀ j u, c[j]? = some u → w.cell? (ad.add (i.toNat * 4 + j)) = some u := hc0
  obtain rfl := k43_open hK
  exact ⟨ad, e, hc 0 _ rfl, by rw [← add_field _ _ 1 (by omega)]; exact hc 1 _ rfl, by rw [← add_field _ _ 2 (by omega)]; exact hc 2 _ rfl, by rw [← add_field _ _ 3 (by omega)]; exact hc 3 _ rfl⟩

/-! #### struct type 68 -/
structure S68 where
  f0 : Int
  f1 : Int
  f2 : Int
def z68 : S68 := ⟨(0 : Int), (0 : Int), (0 : Int)⟩
def k68 : Kd S68 := Kd.iso (Kd.pair (Kd.int .u8) (Kd.pair (Kd.int .i64) (Kd.int .i64))) (fun x : S68 => (x.f0, x.f1, x.f2))
theorem k68_open {w : World} {x : S68} {cs : List Value} (h : k68.K w x cs) : cs = [.int .u8 x.f0, .int .i64 x.f1, .int .i64 x.f2] := by
  obtain ⟨_, _, rfl, rfl, ⟨_, _, rfl, rfl, rfl⟩⟩ := h
  exact rfl
theorem k68_mk (w : World) (x : S68)  : k68.K w x [.int .u8 x.f0, .int .i64 x.f1, .int .i64 x.f2] := ⟨[.int .u8 x.f0], [.int .i64 x.f1, .int .i64 x.f2], rfl, rfl, ⟨[.int .i64 x.f1], [.int .i64 x.f2], rfl, rfl, rfl⟩⟩
def rd_T68 (xs : List S68) (i : Int) : S68 := xs.getD i.toNat z68
theorem at_T68 {w : World} {A : Option Addr} {n : Nat} {xs : List S68} (h : Kd.C k68 w A n xs) (i : Int) (h0 : 0 ≤ i) (h1 : i < n) : ∃ ad , A = some ad ∧ w.cell? (ad.add (i.toNat * 3)) = some (.int .u8 (rd_T68 xs i).f0) ∧ w.cell? ⟨(ad.add (i.toNat * 3)).block, (ad.add (i.toNat * 3)).off + 1, none⟩ = some (.int .i64 (rd_T68 xs i).f1) ∧ w.cell? ⟨(ad.add (i.toNat * 3)).block, (ad.add (i.toNat * 3)).off + 2, none⟩ = some (.int .i64 (rd_T68 xs i).f2) := by
  obtain ⟨ad, c, e, _, hK, hc0⟩ := Kd.C_get h z68 i h0 h1
  have hc : ∀ j u, c[j]? = some u → w.cell? (ad.add (i.toNat * 3 + j)) = some u := hc0
  obtain rfl := k68_open hK
  exact ⟨ad, e, hc 0 _ rfl, by rw [← add_field _ _ 1 (by omega)]; exact hc 1 _ rfl, by rw [← add_field _ _ 2 (by omega)]; exact hc 2 _ rfl⟩

/-! #### struct type 111 -/
/-! #### struct type 113 -/
/-! #### struct type 115 -/
end Go.Proofs.YtodldpdnhcafpaaDoor.F

-- A text of this session's own program (wip/myprint.sh over a changed print tool): functions and their walks
namespace Go.Proofs.YtodldpdnhcafpaaDoor.F
open Go.RowKit Go.Proofs.YtodldpdnhcafpaaDoorW.PrintWords Go.Proofs.YtodldpdnhcafpaaDoorW.PrintLast Go.Proofs.YtodldpdnhcafpaaDoorW.PrintMore
attribute [local go_sem] max2_int min2_int max_two min_two max_three min_three max_four min_four   -- for this text's walks alone
set_option linter.unusedVariables false
set_option linter.unusedSimpArgs false

/-! ### tree_longest: function 35 -/
mutual
def tree_longest.l0 : Nat → ByteArray → Int → Int → Int → Option (Int × Int)
  | 0, _, _, _, _ => none
  | k + 1, x0, x4, x5, x10 => if x10 < 58 then (if 0 ≤ x10 then (tree_longest.l1 k x0 x4 x5 x10 (rdOf ByteArray.empty tabG0 x10) 0 x10) else (none)) else (if x4 ≥ 0 then (if 0 ≤ x4 then (if x4 < 58 then (if ((rdOf ByteArray.empty tabG0 x4).size : Int) < x5 then (some ((-1), x5)) else (some (x4, x5))) else (none)) else (none)) else (some (x4, x5)))
def tree_longest.l1 : Nat → ByteArray → Int → Int → Int → ByteArray → Int → Int → Option (Int × Int)
  | 0, _, _, _, _, _, _, _ => none
  | k + 1, x0, x4, x5, x6, x7, x8, x10 => if x8 < (x0.size : Int) then (if x8 < (x7.size : Int) then (if 0 ≤ x8 then (if (bt x0 x8) = (bt x7 x8) then (tree_longest.l1 k x0 x4 x5 x6 x7 (wrap64 (x8 + 1)) x10) else (if x8 = (x7.size : Int) then (if x4 < 0 then (tree_longest.l0 k x0 x6 (mx x5 x8) (wrap64 (x10 + 1))) else (if 0 ≤ x4 then (if x4 < 58 then (if x8 > ((rdOf ByteArray.empty tabG0 x4).size : Int) then (tree_longest.l0 k x0 x6 (mx x5 x8) (wrap64 (x10 + 1))) else (tree_longest.l0 k x0 x4 (mx x5 x8) (wrap64 (x10 + 1)))) else (none)) else (none))) else (tree_longest.l0 k x0 x4 (mx x5 x8) (wrap64 (x10 + 1))))) else (none)) else (if x8 = (x7.size : Int) then (if x4 < 0 then (tree_longest.l0 k x0 x6 (mx x5 x8) (wrap64 (x10 + 1))) else (if 0 ≤ x4 then (if x4 < 58 then (if x8 > ((rdOf ByteArray.empty tabG0 x4).size : Int) then (tree_longest.l0 k x0 x6 (mx x5 x8) (wrap64 (x10 + 1))) else (tree_longest.l0 k x0 x4 (mx x5 x8) (wrap64 (x10 + 1)))) else (none)) else (none))) else (tree_longest.l0 k x0 x4 (mx x5 x8) (wrap64 (x10 + 1))))) else (if x8 = (x7.size : Int) then (if x4 < 0 then (tree_longest.l0 k x0 x6 (mx x5 x8) (wrap64 (x10 + 1))) else (if 0 ≤ x4 then (if x4 < 58 then (if x8 > ((rdOf ByteArray.empty tabG0 x4).size : Int) then (tree_longest.l0 k x0 x6 (mx x5 x8) (wrap64 (x10 + 1))) else (tree_longest.l0 k x0 x4 (mx x5 x8) (wrap64 (x10 + 1)))) else (none)) else (none))) else (tree_longest.l0 k x0 x4 (mx x5 x8) (wrap64 (x10 + 1))))
end
def tree_longest.f (k : Nat) (a0 : ByteArray) : Option (Int × Int) := tree_longest.l0 k a0 (-1) 0 0
end Go.Proofs.YtodldpdnhcafpaaDoor.F

-- The longest name that a text begins with: what 'longest' and the document's 'name' say
namespace Go.Proofs.YtodldpdnhcafpaaDoor.Q
open Go.RowKit Go.Proofs.YtodldpdnhcafpaaDoorW.PrintWords Go.Proofs.YtodldpdnhcafpaaDoorW.PrintLast Go.Proofs.YtodldpdnhcafpaaDoorW.PrintMore
open Go.Proofs.YtodldpdnhcafpaaDoor.F Classical
set_option linter.unusedSimpArgs false
set_option linter.unusedVariables false
theorem w64 {x : Int} (h0 : -9223372036854775808 ≤ x) (h1 : x ≤ 9223372036854775807) : wrap64 x = x := by unfold wrap64; omega
theorem bt_in (s : ByteArray) (i : Nat) (h : i < s.size) : bt s (i : Int) = ((s[i]'h).toNat : Int) := (bt_at s (i : Int) (by simpa using h)).symm
theorem toList_inj {x y : ByteArray} (h : x.toList = y.toList) : x = y := by
  rw [Lib.toList_data, Lib.toList_data] at h
  exact ByteArray.ext (Array.ext' h)
theorem toList_iff {x y : ByteArray} : x.toList = y.toList ↔ x = y := ⟨toList_inj, fun h => by rw [h]⟩
theorem ba_ext (x y : ByteArray) (h : x.size = y.size) (hb : ∀ i : Nat, i < x.size → bt x (i : Int) = bt y (i : Int)) : x = y := by
  refine ByteArray.ext_getElem h (fun i h1 h2 => ?_)
  have := hb i h1
  rw [bt_in x i h1, bt_in y i h2] at this
  exact UInt8.toNat_inj.1 (by omega)
theorem ex_size (s : ByteArray) {a b : Nat} (h : b ≤ s.size) : (s.extract a b).size = b - a := by rw [ByteArray.size_extract]; omega
theorem bt_ext (s : ByteArray) (a b i : Nat) (h : a + i < b) (hb : b ≤ s.size) : bt (s.extract a b) (i : Int) = bt s ((a + i : Nat) : Int) := by
  rw [bt_in _ i (by rw [ByteArray.size_extract]; omega), bt_in s (a + i) (by omega), ByteArray.getElem_extract]
theorem ex_all (s : ByteArray) : s.extract 0 s.size = s := ByteArray.extract_zero_size
/-- So many bytes both texts have alike, from the front. -/
def Like (t x : ByteArray) (m : Nat) : Prop := m ≤ t.size ∧ m ≤ x.size ∧ ∀ i : Nat, i < m → bt t (i : Int) = bt x (i : Int)
theorem Like.zero (t x : ByteArray) : Like t x 0 := ⟨Nat.zero_le _, Nat.zero_le _, fun i h => absurd h (Nat.not_lt_zero _)⟩
theorem Like.ext {t x : ByteArray} {m : Nat} : Like t x m ↔ m ≤ t.size ∧ m ≤ x.size ∧ x.extract 0 m = t.extract 0 m := by
  constructor
  · rintro ⟨a, b, c⟩
    refine ⟨a, b, ba_ext _ _ (by rw [ex_size _ b, ex_size _ a]) (fun i hi => ?_)⟩
    rw [ex_size _ b] at hi
    have e1 := bt_ext x 0 m i (by omega) b
    have e2 := bt_ext t 0 m i (by omega) a
    rw [Nat.zero_add] at e1 e2
    rw [e1, e2, c i (by omega)]
  · rintro ⟨a, b, c⟩
    refine ⟨a, b, fun i hi => ?_⟩
    have e1 := bt_ext x 0 m i (by omega) b
    have e2 := bt_ext t 0 m i (by omega) a
    rw [Nat.zero_add] at e1 e2
    rw [← e1, ← e2, c]
/-- Where they part. -/
def lcp (t x : ByteArray) : Nat → Nat → Nat
  | 0, n => n
  | d + 1, n => if n < t.size ∧ n < x.size ∧ bt t (n : Int) = bt x (n : Int) then lcp t x d (n + 1) else n
theorem lcp_like (t x : ByteArray) : ∀ (d n : Nat), Like t x n → Like t x (lcp t x d n) ∧ n ≤ lcp t x d n
  | 0, n, h => ⟨h, Nat.le_refl _⟩
  | d + 1, n, h => by
    simp only [lcp]
    split
    · rename_i c
      obtain ⟨a, b⟩ := lcp_like t x d (n + 1) ⟨c.1, c.2.1, fun i hi => by
        by_cases e : i = n
        · rw [e]; exact c.2.2
        · exact h.2.2 i (by omega)⟩
      exact ⟨a, by omega⟩
    · exact ⟨h, Nat.le_refl _⟩
theorem lcp_max (t x : ByteArray) : ∀ (d n : Nat), t.size - n ≤ d → ∀ m, Like t x m → n ≤ m → m ≤ lcp t x d n
  | 0, n, hd, m, h, hn => by have := h.1; simp only [lcp]; omega
  | d + 1, n, hd, m, h, hn => by
    simp only [lcp]
    split
    · rename_i c
      by_cases e : n = m
      · by_cases z : Like t x (n + 1)
        · have := (lcp_like t x d (n + 1) z).2; omega
        · exact absurd ⟨c.1, c.2.1, fun i hi => by
            by_cases e2 : i = n
            · rw [e2]; exact c.2.2
            · exact h.2.2 i (by omega)⟩ z
      · exact lcp_max t x d (n + 1) (by omega) m h (by omega)
    · rename_i c
      by_cases e : n = m
      · omega
      · exact absurd ⟨by have := h.1; omega, by have := h.2.1; omega, h.2.2 n (by omega)⟩ c
/-- As many bytes as both have alike. -/
def lc (t x : ByteArray) : Nat := lcp t x t.size 0
theorem lc_like (t x : ByteArray) : Like t x (lc t x) := (lcp_like t x t.size 0 (Like.zero t x)).1
theorem lc_max {t x : ByteArray} {m : Nat} (h : Like t x m) : m ≤ lc t x := lcp_max t x t.size 0 (by omega) m h (Nat.zero_le _)
/-- A name of the table. -/
def nm (i : Nat) : ByteArray := rdOf ByteArray.empty tabG0 (i : Int)
/-- What is said of a text: the kind whose whole name is its longest beginning of a name (else less than 0), and how long this is. -/
structure LG (t : ByteArray) (k m : Int) : Prop where
  up : ∀ i, i < 58 → (lc t (nm i) : Int) ≤ m
  got : m = 0 ∨ ∃ i, i < 58 ∧ m = (lc t (nm i) : Int)
  in_ : -1 ≤ k ∧ k < 58
  yes : ∀ i : Nat, k = i → nm i = t.extract 0 m.toNat
  no : k < 0 → ∀ i, i < 58 → nm i ≠ t.extract 0 m.toNat
theorem nm_inj_all : ((List.range 58).all fun i => (List.range 58).all fun j => i == j || !((nm i).toList == (nm j).toList)) = true := by decide +kernel
theorem nm_inj {i j : Nat} (hi : i < 58) (hj : j < 58) (h : nm i = nm j) : i = j := by
  have := List.all_eq_true.1 (List.all_eq_true.1 nm_inj_all i (List.mem_range.2 hi)) j (List.mem_range.2 hj)
  rw [h] at this
  simpa using this
theorem nm_size_all : ((List.range 58).all fun i => decide (0 < (nm i).size) && decide ((nm i).size ≤ 10)) = true := by decide +kernel
theorem nm_size {i : Nat} (hi : i < 58) : 0 < (nm i).size ∧ (nm i).size ≤ 10 := by
  have := List.all_eq_true.1 nm_size_all i (List.mem_range.2 hi)
  simpa using this
theorem LG.one {t : ByteArray} {k m k' m' : Int} (h : LG t k m) (h' : LG t k' m') : k = k' ∧ m = m' := by
  have hm : m = m' := by
    have a1 : m ≤ m' := by
      rcases h.got with e | ⟨i, hi, e⟩
      · rcases h'.got with e' | ⟨j, hj, e'⟩ <;> omega
      · have := h'.up i hi; omega
    have a2 : m' ≤ m := by
      rcases h'.got with e | ⟨i, hi, e⟩
      · rcases h.got with e' | ⟨j, hj, e'⟩ <;> omega
      · have := h.up i hi; omega
    omega
  subst hm
  refine ⟨?_, rfl⟩
  have i1 := h.in_
  have i2 := h'.in_
  by_cases c : k < 0
  · by_cases c' : k' < 0
    · omega
    · obtain ⟨n, rfl⟩ : ∃ n : Nat, k' = n := ⟨k'.toNat, by omega⟩
      exact absurd (h'.yes n rfl) (h.no c n (by omega))
  · obtain ⟨n, rfl⟩ : ∃ n : Nat, k = n := ⟨k.toNat, by omega⟩
    by_cases c' : k' < 0
    · exact absurd (h.yes n rfl) (h'.no c' n (by omega))
    · obtain ⟨n', rfl⟩ : ∃ n : Nat, k' = n := ⟨k'.toNat, by omega⟩
      rw [nm_inj (by omega) (by omega) ((h.yes n rfl).trans (h'.yes n' rfl).symm)]
theorem lc_le (t x : ByteArray) : lc t x ≤ t.size ∧ lc t x ≤ x.size := ⟨(lc_like t x).1, (lc_like t x).2.1⟩
/-- A name that is a beginning of the text: it is the text's beginning of its length. -/
theorem full_iff {t x : ByteArray} : lc t x = x.size ↔ x.size ≤ t.size ∧ x = t.extract 0 x.size := by
  constructor
  · intro h
    have l := lc_like t x
    rw [h] at l
    have e := (Like.ext.1 l).2.2
    rw [ex_all] at e
    exact ⟨l.1, e⟩
  · rintro ⟨a, b⟩
    have : Like t x x.size := Like.ext.2 ⟨a, Nat.le_refl _, by rw [ex_all]; exact b⟩
    have := lc_max this
    have := lc_le t x
    omega
structure LI (t : ByteArray) (i : Nat) (k m : Int) : Prop where
  up : ∀ j, j < i → (lc t (nm j) : Int) ≤ m
  got : m = 0 ∨ ∃ j, j < i ∧ m = (lc t (nm j) : Int)
  in_ : -1 ≤ k ∧ k < i
  full : ∀ j : Nat, k = j → lc t (nm j) = (nm j).size
  most : ∀ j, j < i → lc t (nm j) = (nm j).size → ∃ n : Nat, k = n ∧ (nm j).size ≤ (nm n).size
theorem LI.m0 {t : ByteArray} {i : Nat} {k m : Int} (h : LI t i k m) : 0 ≤ m ∧ m ≤ t.size := by
  rcases h.got with e | ⟨j, hj, e⟩
  · omega
  · have := (lc_le t (nm j)).1; omega
theorem LI.zero (t : ByteArray) : LI t 0 (-1) 0 := ⟨fun j h => absurd h (Nat.not_lt_zero _), .inl rfl, by omega, fun j h => by omega, fun j h => absurd h (Nat.not_lt_zero _)⟩
/-- One name more. -/
theorem LI.step {t : ByteArray} {i : Nat} {k m : Int} (h : LI t i k m) (k' : Int)
    (hk : k' = if lc t (nm i) = (nm i).size ∧ (k < 0 ∨ ∃ n : Nat, k = n ∧ (nm n).size < lc t (nm i)) then (i : Int) else k) : LI t (i + 1) k' (mx m (lc t (nm i) : Int)) := by
  have hm : m ≤ mx m (lc t (nm i) : Int) ∧ (lc t (nm i) : Int) ≤ mx m (lc t (nm i) : Int) ∧ (mx m (lc t (nm i) : Int) = m ∨ mx m (lc t (nm i) : Int) = (lc t (nm i) : Int)) := by unfold mx; omega
  generalize mx m (lc t (nm i) : Int) = m' at hm ⊢
  refine ⟨fun j hj => ?_, ?_, ?_, fun j hj => ?_, fun j hj hf => ?_⟩
  · by_cases e : j = i
    · rw [e]; exact hm.2.1
    · have := h.up j (by omega); omega
  · rcases hm.2.2 with e | e
    · rcases h.got with e' | ⟨j, hj, e'⟩
      · left; omega
      · right; exact ⟨j, by omega, by omega⟩
    · right; exact ⟨i, by omega, e⟩
  · have := h.in_
    rw [hk]
    split <;> omega
  · rw [hk] at hj
    split at hj
    · rename_i c
      have : i = j := by omega
      rw [← this]; exact c.1
    · exact h.full j hj
  · rw [hk]
    by_cases e : j = i
    · subst e
      split
      · exact ⟨j, rfl, Nat.le_refl _⟩
      · rename_i c
        have i1 := h.in_
        by_cases z : k < 0
        · exact absurd ⟨hf, .inl z⟩ c
        · obtain ⟨n, rfl⟩ : ∃ n : Nat, k = n := ⟨k.toNat, by omega⟩
          by_cases z2 : (nm n).size < lc t (nm j)
          · exact absurd ⟨hf, .inr ⟨n, rfl, z2⟩⟩ c
          · exact ⟨n, rfl, by omega⟩
    · obtain ⟨n, hn, hs⟩ := h.most j (by omega) hf
      split
      · rename_i c
        rcases c.2 with z | ⟨n', hn', z⟩
        · omega
        · have : n = n' := by omega
          subst this
          exact ⟨i, rfl, by omega⟩
      · exact ⟨n, hn, hs⟩
/-- Behind the last one. -/
theorem LI.done {t : ByteArray} {k m : Int} (h : LI t 58 k m) : LG t (if ∃ n : Nat, k = n ∧ ((nm n).size : Int) < m then -1 else k) m := by
  have m0 := h.m0
  have i1 := h.in_
  refine ⟨h.up, h.got, ?_, fun j hj => ?_, fun hn j hj he => ?_⟩
  · split <;> omega
  · split at hj
    · omega
    · rename_i c
      have hf := h.full j hj
      have h1 := h.up j (by omega)
      have h2 : ¬ ((nm j).size : Int) < m := fun z => c ⟨j, hj, z⟩
      have e : m.toNat = (nm j).size := by omega
      rw [e]
      exact (full_iff.1 hf).2
  · have hs : (nm j).size = m.toNat := by rw [he, ex_size _ (by omega)]; omega
    have hf : lc t (nm j) = (nm j).size := full_iff.2 ⟨by omega, by rw [hs]; exact he⟩
    obtain ⟨n, hk, hl⟩ := h.most j hj hf
    split at hn
    · rename_i c
      obtain ⟨n', hk', z⟩ := c
      have : n = n' := by omega
      subst this
      omega
    · omega
theorem nm_def (x : Int) (h : 0 ≤ x) : rdOf ByteArray.empty tabG0 x = nm x.toNat := by
  unfold nm
  rw [Int.toNat_of_nonneg h]
theorem longest_end (t : ByteArray) (k : Int) (m : Int) (h : LI t 58 k m) : Ev (fun n => tree_longest.l0 n t k m 58) (if ∃ n : Nat, k = n ∧ ((nm n).size : Int) < m then -1 else k, m) := by
  have i1 := h.in_
  refine Ev.step (f := fun _ => some (if ∃ n : Nat, k = n ∧ ((nm n).size : Int) < m then -1 else k, m)) (fun n => ?_) (Ev.now _)
  simp only [tree_longest.l0]
  rw [if_neg (by omega)]
  by_cases c : k ≥ 0
  · obtain ⟨n', rfl⟩ : ∃ n : Nat, k = n := ⟨k.toNat, by omega⟩
    rw [if_pos c, if_pos c, if_pos (by omega)]
    by_cases c2 : ((nm n').size : Int) < m
    · rw [if_pos (by exact c2), if_pos ⟨n', rfl, c2⟩]
    · have hx : ¬ ∃ n : Nat, (n' : Int) = n ∧ ((nm n).size : Int) < m := fun ⟨n2, h2, h3⟩ => by
        have : n' = n2 := by omega
        subst this
        exact c2 h3
      rw [if_neg (by exact c2), if_neg hx]
  · rw [if_neg c, if_neg (fun ⟨n2, h2, _⟩ => by omega)]
/-- What stands behind the inner loop. -/
def aft (n : Nat) (t : ByteArray) (x4 x5 x6 : Int) (x7 : ByteArray) (x8 x10 : Int) : Option (Int × Int) :=
  (if x8 = (x7.size : Int) then (if x4 < 0 then (tree_longest.l0 n t x6 (mx x5 x8) (wrap64 (x10 + 1))) else (if 0 ≤ x4 then (if x4 < 58 then (if x8 > ((rdOf ByteArray.empty tabG0 x4).size : Int) then (tree_longest.l0 n t x6 (mx x5 x8) (wrap64 (x10 + 1))) else (tree_longest.l0 n t x4 (mx x5 x8) (wrap64 (x10 + 1)))) else (none)) else (none))) else (tree_longest.l0 n t x4 (mx x5 x8) (wrap64 (x10 + 1))))
theorem l1_is (t : ByteArray) (hs : t.size ≤ 9223372036854775806) (x4 x5 : Int) (x7 : ByteArray) (x6 x10 : Int) (r : Int × Int) : ∀ (d m : Nat), t.size - m ≤ d → Like t x7 m →
    Ev (fun n => aft n t x4 x5 x6 x7 (lcp t x7 d m : Int) x10) r → Ev (fun n => tree_longest.l1 n t x4 x5 x6 x7 (m : Int) x10) r
  | d, m, hd, hl, h => by
    have h1 := hl.1
    by_cases c1 : m < t.size
    · by_cases c2 : m < x7.size
      · by_cases c3 : bt t (m : Int) = bt x7 (m : Int)
        · obtain ⟨d, rfl⟩ : ∃ e, d = e + 1 := ⟨d - 1, by omega⟩
          simp only [lcp] at h
          rw [if_pos ⟨c1, c2, c3⟩] at h
          refine Ev.step (f := fun n => tree_longest.l1 n t x4 x5 x6 x7 ((m + 1 : Nat) : Int) x10) (fun n => ?_) (l1_is t hs x4 x5 x7 x6 x10 r d (m + 1) (by omega) ⟨c1, c2, fun i hi => ?_⟩ h)
          · simp only [tree_longest.l1]
            rw [if_pos (by omega), if_pos (by omega), if_pos (by omega), if_pos c3, w64 (by omega) (by omega)]
            rfl
          · by_cases e : i = m
            · rw [e]; exact c3
            · exact hl.2.2 i (by omega)
        · have e : lcp t x7 d m = m := by
            cases d with
            | zero => rfl
            | succ d => simp only [lcp]; rw [if_neg (fun z => c3 z.2.2)]
          rw [e] at h
          refine Ev.step (f := fun n => aft n t x4 x5 x6 x7 (m : Int) x10) (fun n => ?_) h
          simp only [tree_longest.l1]
          rw [if_pos (by omega), if_pos (by omega), if_pos (by omega), if_neg c3]
          rfl
      · have e : lcp t x7 d m = m := by
          cases d with
          | zero => rfl
          | succ d => simp only [lcp]; rw [if_neg (fun z => c2 z.2.1)]
        rw [e] at h
        refine Ev.step (f := fun n => aft n t x4 x5 x6 x7 (m : Int) x10) (fun n => ?_) h
        simp only [tree_longest.l1]
        rw [if_pos (by omega), if_neg (by omega)]
        rfl
    · have e : lcp t x7 d m = m := by
        cases d with
        | zero => rfl
        | succ d => simp only [lcp]; rw [if_neg (fun z => c1 z.1)]
      rw [e] at h
      refine Ev.step (f := fun n => aft n t x4 x5 x6 x7 (m : Int) x10) (fun n => ?_) h
      simp only [tree_longest.l1]
      rw [if_neg (by omega)]
      rfl
termination_by d => d
theorem longest_l0 (t : ByteArray) (hs : t.size ≤ 9223372036854775806) : ∀ (d i : Nat) (k m : Int), 58 - i = d → i ≤ 58 → LI t i k m → ∃ K M, LG t K M ∧ Ev (fun n => tree_longest.l0 n t k m (i : Int)) (K, M)
  | 0, i, k, m, hd, hi, h => by
    obtain rfl : i = 58 := by omega
    exact ⟨_, _, h.done, longest_end t k m h⟩
  | d + 1, i, k, m, hd, hi, h => by
    have i1 := h.in_
    obtain ⟨K, M, hg, he⟩ := longest_l0 t hs d (i + 1) _ _ (by omega) (by omega) (h.step _ rfl)
    refine ⟨K, M, hg, Ev.step (f := fun n => tree_longest.l1 n t k m (i : Int) (nm i) ((0 : Nat) : Int) (i : Int)) (fun n => ?_) (l1_is t hs k m (nm i) (i : Int) (i : Int) (K, M) t.size 0 (by omega) (Like.zero _ _) ?_)⟩
    · simp only [tree_longest.l0]
      rw [if_pos (by omega), if_pos (by omega)]
      rfl
    · have hw : wrap64 ((i : Int) + 1) = ((i + 1 : Nat) : Int) := by rw [w64 (by omega) (by omega)]; rfl
      have hl : lcp t (nm i) t.size 0 = lc t (nm i) := rfl
      unfold aft
      rw [hw, hl]
      by_cases c : lc t (nm i) = (nm i).size
      · simp only [if_pos (show (lc t (nm i) : Int) = ((nm i).size : Int) by omega)]
        by_cases c2 : k < 0
        · rw [if_pos ⟨c, .inl c2⟩] at he
          simp only [if_pos c2]
          exact he
        · obtain ⟨n', rfl⟩ : ∃ n : Nat, k = n := ⟨k.toNat, by omega⟩
          simp only [if_neg c2, if_pos (show (0 : Int) ≤ (n' : Int) by omega), if_pos (show (n' : Int) < 58 by omega)]
          by_cases c3 : (nm n').size < lc t (nm i)
          · rw [if_pos ⟨c, .inr ⟨n', rfl, c3⟩⟩] at he
            simp only [if_pos (show (lc t (nm i) : Int) > ((rdOf ByteArray.empty tabG0 (n' : Int)).size : Int) from by show ((nm n').size : Int) < _; omega)]
            exact he
          · rw [if_neg (fun z => by
              rcases z.2 with z | ⟨n2, h2, z⟩
              · omega
              · have : n' = n2 := by omega
                subst this
                exact c3 z)] at he
            simp only [if_neg (show ¬ (lc t (nm i) : Int) > ((rdOf ByteArray.empty tabG0 (n' : Int)).size : Int) from by show ¬ ((nm n').size : Int) < _; omega)]
            exact he
      · rw [if_neg (fun z => c z.1)] at he
        simp only [if_neg (show ¬ (lc t (nm i) : Int) = ((nm i).size : Int) by omega)]
        exact he
theorem longest_is (t : ByteArray) (hs : t.size ≤ 9223372036854775806) : ∃ K M, LG t K M ∧ Ev (fun n => tree_longest.f n t) (K, M) := longest_l0 t hs 58 0 (-1) 0 rfl (by omega) (LI.zero t)
end Go.Proofs.YtodldpdnhcafpaaDoor.Q

-- A text of this session's own program (wip/myprint.sh over a changed print tool): functions and their walks
namespace Go.Proofs.YtodldpdnhcafpaaDoor.F
open Go.RowKit Go.Proofs.YtodldpdnhcafpaaDoorW.PrintWords Go.Proofs.YtodldpdnhcafpaaDoorW.PrintLast Go.Proofs.YtodldpdnhcafpaaDoorW.PrintMore
attribute [local go_sem] max2_int min2_int max_two min_two max_three min_three max_four min_four   -- for this text's walks alone
set_option linter.unusedVariables false
set_option linter.unusedSimpArgs false

theorem eqA68 (d : Nat) (w : World) (x0 y0 : Int) (x1 y1 : Int) (x2 y2 : Int) :
    (Op.equalIn (d + 2) 68 (.agg #[.int .u8 x0, .int .i64 x1, .int .i64 x2]) (.agg #[.int .u8 y0, .int .i64 y1, .int .i64 y2])).run Tryd.prog w = .ok (x0 == y0 && (x1 == y1 && (x2 == y2))) w := by
  refine eqA_of Tryd.underlying68 (by kernel_rfl) ?_
  refine eqf_cons (by rfl) (by go_simp; rfl) (by go_simp; rfl) (by go_simp) ?_
  refine eqf_cons (by rfl) (by go_simp; rfl) (by go_simp; rfl) (by go_simp) ?_
  exact eqf_last (by rfl) (by go_simp; rfl) (by go_simp; rfl) (by go_simp)
end Go.Proofs.YtodldpdnhcafpaaDoor.F

-- A text of this session's own program (wip/myprint.sh over a changed print tool): functions and their walks
namespace Go.Proofs.YtodldpdnhcafpaaDoor.F
open Go.RowKit Go.Proofs.YtodldpdnhcafpaaDoorW.PrintWords Go.Proofs.YtodldpdnhcafpaaDoorW.PrintLast Go.Proofs.YtodldpdnhcafpaaDoorW.PrintMore
attribute [local go_sem] max2_int min2_int max_two min_two max_three min_three max_four min_four   -- for this text's walks alone
set_option linter.unusedVariables false
set_option linter.unusedSimpArgs false

theorem eqA43 (d : Nat) (w : World) (x0 y0 : Int) (x1 y1 : Int) (x2 y2 : Int) (x3 y3 : Int) :
    (Op.equalIn (d + 2) 43 (.agg #[.int .u8 x0, .int .i64 x1, .int .i64 x2, .int .i64 x3]) (.agg #[.int .u8 y0, .int .i64 y1, .int .i64 y2, .int .i64 y3])).run Tryd.prog w = .ok (x0 == y0 && (x1 == y1 && (x2 == y2 && (x3 == y3)))) w := by
  refine eqA_of Tryd.underlying43 (by kernel_rfl) ?_
  refine eqf_cons (by rfl) (by go_simp; rfl) (by go_simp; rfl) (by go_simp) ?_
  refine eqf_cons (by rfl) (by go_simp; rfl) (by go_simp; rfl) (by go_simp) ?_
  refine eqf_cons (by rfl) (by go_simp; rfl) (by go_simp; rfl) (by go_simp) ?_
  exact eqf_last (by rfl) (by go_simp; rfl) (by go_simp; rfl) (by go_simp)
end Go.Proofs.YtodldpdnhcafpaaDoor.F

-- A text of this session's own program (wip/myprint.sh over a changed print tool): functions and their walks
namespace Go.Proofs.YtodldpdnhcafpaaDoor.F
open Go.RowKit Go.Proofs.YtodldpdnhcafpaaDoorW.PrintWords Go.Proofs.YtodldpdnhcafpaaDoorW.PrintLast Go.Proofs.YtodldpdnhcafpaaDoorW.PrintMore
attribute [local go_sem] max2_int min2_int max_two min_two max_three min_three max_four min_four   -- for this text's walks alone
set_option linter.unusedVariables false
set_option linter.unusedSimpArgs false

/-! ### stringslite_HasPrefix: function 57 -/
def stringslite_HasPrefix.f (a0 : ByteArray) (a1 : ByteArray) : Option (Bool) := if (a0.size : Int) ≥ (a1.size : Int) then (if 0 ≤ (a1.size : Int) then (if (a1.size : Int) ≤ (a0.size : Int) then (some ((a0.extract 0 ((a1.size : Int) : Int).toNat).toList == a1.toList)) else (none)) else (none)) else (some false)
set_option maxHeartbeats 8000000 in
set_option maxRecDepth 100000 in
theorem stringslite_HasPrefix.calls (a0 : ByteArray) (a1 : ByteArray) (r : Bool) (w : World) (h : stringslite_HasPrefix.f a0 a1 = some r) :
    Calls Tryd.prog 57 #[.string a0, .string a1] w fun e w' => e = .returned (.bool r) ∧ Drawn0 w w' := by
  have H : (if (a0.size : Int) ≥ (a1.size : Int) then (if 0 ≤ (a1.size : Int) then (if (a1.size : Int) ≤ (a0.size : Int) then (some ((a0.extract 0 ((a1.size : Int) : Int).toNat).toList == a1.toList)) else (none)) else (none)) else (some false)) = some r := h
  clear h
  by_cases c3 : (a0.size : Int) ≥ (a1.size : Int)
  · rw [if_pos c3] at H
    have c3b0 : decide ((a1.size : Int) ≤ (a0.size : Int)) = true := decide_eq_true c3
    have c3b1 : decide (a1.size ≤ a0.size) = true := decide_eq_true (Int.ofNat_le.mp c3)
    clear c3
    by_cases c4 : 0 ≤ (a1.size : Int)
    · rw [if_pos c4] at H
      have c4b0 := eq_true c4
      have c4b1 : decide (0 ≤ (a1.size : Int)) = true := decide_eq_true c4
      clear c4
      by_cases c5 : (a1.size : Int) ≤ (a0.size : Int)
      · rw [if_pos c5] at H
        have c5b0 := eq_true c5
        have c5b1 : decide ((a1.size : Int) ≤ (a0.size : Int)) = true := decide_eq_true c5
        clear c5
        obtain rfl := Option.some.inj H
        go_enter Tryd.func57, Tryd.ntmps57
        go_wp2
        go_ret
        exact ⟨by first | rfl | (simp; done) | (simp [*]; done), by repeat (first | exact Drawn0.refl _ | apply Drawn0.step)⟩
      · rw [if_neg c5] at H
        exact absurd H (by simp)
    · rw [if_neg c4] at H
      exact absurd H (by simp)
  · rw [if_neg c3] at H
    have c3b0 : decide ((a1.size : Int) ≤ (a0.size : Int)) = false := decide_eq_false c3
    have c3b1 : decide (a1.size ≤ a0.size) = false := decide_eq_false (fun h => c3 (Int.ofNat_le.mpr h))
    clear c3
    obtain rfl := Option.some.inj H
    go_enter Tryd.func57, Tryd.ntmps57
    go_wp2
    go_ret
    exact ⟨by first | rfl | (simp; done) | (simp [*]; done), by repeat (first | exact Drawn0.refl _ | apply Drawn0.step)⟩

end Go.Proofs.YtodldpdnhcafpaaDoor.F

-- A text of this session's own program (wip/myprint.sh over a changed print tool): functions and their walks
namespace Go.Proofs.YtodldpdnhcafpaaDoor.F
open Go.RowKit Go.Proofs.YtodldpdnhcafpaaDoorW.PrintWords Go.Proofs.YtodldpdnhcafpaaDoorW.PrintLast Go.Proofs.YtodldpdnhcafpaaDoorW.PrintMore
attribute [local go_sem] max2_int min2_int max_two min_two max_three min_three max_four min_four   -- for this text's walks alone
set_option linter.unusedVariables false
set_option linter.unusedSimpArgs false

/-! ### strings_HasPrefix: function 36 -/
def strings_HasPrefix.f (a0 : ByteArray) (a1 : ByteArray) : Option (Bool) := (stringslite_HasPrefix.f a0 a1).bind fun t106 => (some t106)
set_option maxHeartbeats 8000000 in
set_option maxRecDepth 100000 in
theorem strings_HasPrefix.calls (a0 : ByteArray) (a1 : ByteArray) (r : Bool) (w : World) (h : strings_HasPrefix.f a0 a1 = some r) :
    Calls Tryd.prog 36 #[.string a0, .string a1] w fun e w' => e = .returned (.bool r) ∧ Drawn0 w w' := by
  have H : ((stringslite_HasPrefix.f a0 a1).bind fun t106 => (some t106)) = some r := h
  clear h
  replace H := Option.bind_eq_some_iff.mp H
  obtain ⟨t106, A30, H⟩ := H
  replace H : (some t106) = some r := H
  have A3 := Aside0.mk A30
  clear A30
  obtain rfl := Option.some.inj H
  go_enter Tryd.func36, Tryd.ntmps36
  go_wp2_with (first | ((with_reducible refine gate_callee (f := 57) rfl ?_); refine goesL_ (some 7) rfl rfl Tryd.func57 (by kernel_rfl) rfl #[.string a0, .string a1] rfl (by (try simp only [List.map_toArray, List.map_cons, List.map_nil]); first | done | rfl | (simp only [List.length_drop, List.length_take]; rfl)) ?_; (with_reducible refine (stringslite_HasPrefix.calls a0 a1 t106 _ A3.out).mono ?_); rintro e w' ⟨rfl, ⟨nd, rfl⟩⟩; refine ⟨_, rfl, ?_⟩))
  go_ret
  exact ⟨by first | rfl | (simp; done) | (simp [*]; done), by repeat (first | exact Drawn0.refl _ | apply Drawn0.step)⟩

end Go.Proofs.YtodldpdnhcafpaaDoor.F

-- Draw's closure 'fault' (34): its contract
namespace Go.Proofs.YtodldpdnhcafpaaDoor.F
open Go.RowKit Go.Proofs.YtodldpdnhcafpaaDoorW.PrintWords Go.Proofs.YtodldpdnhcafpaaDoorW.PrintLast Go.Proofs.YtodldpdnhcafpaaDoorW.PrintMore
set_option linter.unusedVariables false
set_option linter.unusedSimpArgs false
def tree_fault.f (k : Nat) (a : Int) : Option ((List (S43)) × Int × Int) := some ([], 40, a)
theorem tree_fault.calls (k : Nat) (a : Int) (r1 : List S43) (r2 r3 : Int) (w : World) (h : tree_fault.f k a = some (r1, r2, r3)) (b : Nat) (hb : w.heap[b]? = some (.cells #[.int .i64 a] 3 (0, 0))) :
    Calls Tryd.prog 34 #[.pointer (some ⟨b, 0, none⟩)] w fun e w' => ∃ v0_ : Value, e = .returned (.tuple #[.agg #[v0_], .int .i64 r2, .int .i64 r3]) ∧ Kd.R k43 43 w' w.heap.size (fun _ => True) v0_ r1 ∧ Below w.heap.size w w' := by
  unfold tree_fault.f at h
  simp only [Option.some.injEq, Prod.mk.injEq] at h
  obtain ⟨rfl, rfl, rfl⟩ := h
  have hc0 : w.cell? ⟨b, 0, none⟩ = some (.int .i64 a) := (blk_cell hb 0).trans rfl
  have hu24 := Tryd.underlying24
  have HB := Aside0.mk (Below.refl w.heap.size w)
  go_enter Tryd.func34, Tryd.ntmps34
  go_wp2
  have hc1 : (w.alloc (.cells #[.slice none 0 0] 24)).cell? ⟨b, 0, none⟩ = some (.int .i64 a) := (World.cell?_of_block (a := ⟨b, 0, none⟩) (Below.heap_alloc w _ b (World.block_lt_of_cell? _ _ hc0))).trans hc0
  go_region
  go_wp2
  have hbk : (w.alloc (.cells #[.slice none 0 0] 24)).drew.heap[w.heap.size]? = some (.cells #[.slice none 0 0] 24 (0, 0)) := by
    refine blk_drew ?_
    exact blk_new w _
  refine bodyPost_ret (results_ctt rfl _ _ w.heap.size 24 #[.slice none 0 0] (0, 0) _ rfl hbk Tryd.underlying24 rfl (by kernel_rfl)) rfl ?_
  exact ⟨_, rfl, Kd.R_nil _ _ _ _ _, by repeat (first | exact HB.out | apply below_alloc | apply pw_below_drewN | apply below_drew1)⟩
end Go.Proofs.YtodldpdnhcafpaaDoor.F

-- tree.Draw: printed out of an altered dump (an int in memory told as a struct of one field; the closure's call as a plain one), mended by wip/mkdraw.py
namespace Go.Proofs.YtodldpdnhcafpaaDoor.F
open Go.RowKit Go.Proofs.YtodldpdnhcafpaaDoorW.PrintWords Go.Proofs.YtodldpdnhcafpaaDoorW.PrintLast Go.Proofs.YtodldpdnhcafpaaDoorW.PrintMore
attribute [local go_sem] max2_int min2_int max_two min_two max_three min_three max_four min_four   -- for this text's walks alone
set_option linter.unusedVariables false
set_option linter.unusedSimpArgs false

/-! ### tree_Draw: function 7 -/
mutual
def tree_Draw.l0 : Nat → ByteArray → List Int → List (S43) → Int → Option ((List (S43)) × Int × Int)
  | 0, _, _, _, _ => none
  | k + 1, x0, x6, x109000, x110000 => if 0 ≤ x110000 then (if x110000 ≤ (x0.size : Int) then ((tree_longest.f k (x0.extract (x110000 : Int).toNat x0.size)).bind fun bt110 => (if bt110.1 < 0 then ((tree_fault.f k (wrap64 (x110000 + bt110.2))).bind fun bt112 => (some (bt112.1, bt112.2.1, bt112.2.2))) else (if x109000.length < 4398046511104 then ((some (x109000 ++ [(⟨(bt110.1) % 256, 0, 0, 1⟩ : S43)] : List (S43))).bind fun y117 => (if 0 ≤ (wrap64 (x110000 + bt110.2)) then (if (wrap64 (x110000 + bt110.2)) ≤ (x0.size : Int) then ((strings_HasPrefix.f (x0.extract ((wrap64 (x110000 + bt110.2)) : Int).toNat x0.size) (⟨#[40]⟩ : ByteArray)).bind fun t120 => (if t120 = true then (if x6.length < 17592186044416 then (tree_Draw.l0 k x0 (x6 ++ [wrap64 ((y117.length : Int) - 1)]) y117 (wrap64 ((wrap64 (x110000 + bt110.2)) + 1))) else (none)) else (tree_Draw.l1 k x0 x6 y117 (wrap64 (x110000 + bt110.2))))) else (none)) else (none))) else (none)))) else (none)) else (none)
def tree_Draw.j2 : Nat → ByteArray → List Int → List (S43) → Int → Option ((List (S43)) × Int × Int)
  | 0, _, _, _, _ => none
  | k + 1, x0, x6, x109000, x110000 => if (x6.length : Int) = 0 then (tree_Draw.j3 k x0 x6 (x110000 == (x0.size : Int)) x109000 x110000) else (tree_Draw.j3 k x0 x6 false x109000 x110000)
def tree_Draw.j3 : Nat → ByteArray → List Int → Bool → List (S43) → Int → Option ((List (S43)) × Int × Int)
  | 0, _, _, _, _, _ => none
  | k + 1, x0, x6, x83, x109000, x110000 => if x83 = true then (some (x109000, 0, 0)) else (if (x6.length : Int) = 0 then ((tree_fault.f k x110000).bind fun bt130 => (some (bt130.1, bt130.2.1, bt130.2.2))) else (if 0 ≤ x110000 then (if x110000 ≤ (x0.size : Int) then ((strings_HasPrefix.f (x0.extract (x110000 : Int).toNat x0.size) (⟨#[32]⟩ : ByteArray)).bind fun t135 => (if t135 = true then (tree_Draw.l0 k x0 x6 x109000 (wrap64 (x110000 + 1))) else ((tree_fault.f k x110000).bind fun bt136 => (some (bt136.1, bt136.2.1, bt136.2.2))))) else (none)) else (none)))
def tree_Draw.l1 : Nat → ByteArray → List Int → List (S43) → Int → Option ((List (S43)) × Int × Int)
  | 0, _, _, _, _ => none
  | k + 1, x0, x6, x109000, x110000 => if (x6.length : Int) > 0 then (if 0 ≤ x110000 then (if x110000 ≤ (x0.size : Int) then ((strings_HasPrefix.f (x0.extract (x110000 : Int).toNat x0.size) (⟨#[41]⟩ : ByteArray)).bind fun t124 => (if t124 = true then (if 0 ≤ (wrap64 ((x6.length : Int) - 1)) then (if (wrap64 ((x6.length : Int) - 1)) < (x6.length : Int) then (if 0 ≤ (rd x6 (wrap64 ((x6.length : Int) - 1))) then (if (rd x6 (wrap64 ((x6.length : Int) - 1))) < (x109000.length : Int) then (if (wrap64 ((x6.length : Int) - 1)) ≤ (x6.length : Int) then (tree_Draw.l1 k x0 (x6.take ((wrap64 ((x6.length : Int) - 1)) : Int).toNat) (x109000.set ((rd x6 (wrap64 ((x6.length : Int) - 1))) : Int).toNat (⟨(rd_T43 x109000 (rd x6 (wrap64 ((x6.length : Int) - 1)))).f0, (rd_T43 x109000 (rd x6 (wrap64 ((x6.length : Int) - 1)))).f1, (rd_T43 x109000 (rd x6 (wrap64 ((x6.length : Int) - 1)))).f2, wrap64 ((x109000.length : Int) - (rd x6 (wrap64 ((x6.length : Int) - 1))))⟩ : S43)) (wrap64 (x110000 + 1))) else (none)) else (none)) else (none)) else (none)) else (none)) else (tree_Draw.j2 k x0 x6 x109000 x110000))) else (none)) else (none)) else (tree_Draw.j2 k x0 x6 x109000 x110000)
end
def tree_Draw.f (k : Nat) (a0 : ByteArray) : Option ((List (S43)) × Int × Int) := tree_Draw.l0 k a0 ([] : List Int) ([] : List (S43)) 0
end Go.Proofs.YtodldpdnhcafpaaDoor.F

-- TreeDraws, plainly: both readers of a sketch say the same
namespace Go.Proofs.YtodldpdnhcafpaaDoor.Q
open Go.RowKit Go.Proofs.YtodldpdnhcafpaaDoorW.PrintWords Go.Proofs.YtodldpdnhcafpaaDoorW.PrintLast Go.Proofs.YtodldpdnhcafpaaDoorW.PrintMore
open Go.Proofs.YtodldpdnhcafpaaDoor.F Classical
set_option linter.unusedSimpArgs false
set_option linter.unusedVariables false
structure NI (w : ByteArray) (i : Nat) (k : Int) (b : Bool) : Prop where
  in_ : -1 ≤ k ∧ k < i
  yes : ∀ j : Nat, k = j → nm j = w
  no : k < 0 → ∀ j, j < i → nm j ≠ w
  beg : b = true ↔ ∃ j, j < i ∧ w.size ≤ (nm j).size ∧ (nm j).extract 0 w.size = w
theorem NI.zero (w : ByteArray) : NI w 0 (-1) false := ⟨by omega, fun j h => by omega, fun _ j h => absurd h (Nat.not_lt_zero _), ⟨(fun h => by cases h), fun ⟨j, h, _⟩ => absurd h (Nat.not_lt_zero _)⟩⟩
theorem NI.step {w : ByteArray} {i : Nat} {k : Int} {b : Bool} (h : NI w i k b) : NI w (i + 1) (if nm i = w then (i : Int) else k) (if w.size ≤ (nm i).size ∧ (nm i).extract 0 w.size = w then true else b) := by
  have i1 := h.in_
  refine ⟨by split <;> omega, fun j hj => ?_, fun hn j hj => ?_, ?_⟩
  · split at hj
    · rename_i c
      have : i = j := by omega
      rw [← this]; exact c
    · exact h.yes j hj
  · split at hn
    · omega
    · rename_i c
      by_cases e : j = i
      · rw [e]; exact c
      · exact h.no hn j (by omega)
  · split
    · rename_i c
      exact ⟨fun _ => ⟨i, by omega, c⟩, fun _ => rfl⟩
    · rename_i c
      rw [h.beg]
      constructor
      · rintro ⟨j, hj, z⟩
        exact ⟨j, by omega, z⟩
      · rintro ⟨j, hj, z⟩
        by_cases e : j = i
        · subst e; exact absurd z c
        · exact ⟨j, by omega, z⟩
theorem LG.m0 {t : ByteArray} {k m : Int} (h : LG t k m) : 0 ≤ m ∧ m ≤ t.size := by
  rcases h.got with e | ⟨j, hj, e⟩
  · omega
  · have := (lc_le t (nm j)).1; omega
theorem LG.pos {t : ByteArray} {k m : Int} (h : LG t k m) (hk : ¬ k < 0) : 1 ≤ m := by
  have m0 := h.m0
  have i1 := h.in_
  obtain ⟨n, rfl⟩ : ∃ n : Nat, k = n := ⟨k.toNat, by omega⟩
  have e := h.yes n rfl
  have s0 := (nm_size (i := n) (by omega)).1
  rw [e, ex_size _ (by omega)] at s0
  omega
theorem hp_is (s : ByteArray) (a : Nat) (ha : a ≤ s.size) (c : UInt8) : strings_HasPrefix.f (s.extract a s.size) ⟨#[c]⟩ = some (decide (a < s.size ∧ bt s (a : Int) = (c.toNat : Int))) := by
  have hsz : (s.extract a s.size).size = s.size - a := ex_size _ (Nat.le_refl _)
  have h1 : (⟨#[c]⟩ : ByteArray).size = 1 := rfl
  unfold strings_HasPrefix.f stringslite_HasPrefix.f
  rw [h1, hsz]
  by_cases c1 : a < s.size
  · rw [if_pos (by omega), if_pos (by omega), if_pos (by omega), Option.bind_some]
    congr 1
    have hb : bt s (a : Int) = bt ((s.extract a s.size).extract 0 1) ((0 : Nat) : Int) := by
      rw [bt_ext (s.extract a s.size) 0 1 0 (by omega) (by omega), bt_ext s a s.size (0 + 0) (by omega) (Nat.le_refl _)]
      rfl
    by_cases c2 : bt s (a : Int) = (c.toNat : Int)
    · rw [decide_eq_true ⟨c1, c2⟩, beq_iff_eq]
      show ((s.extract a s.size).extract 0 1).toList = _
      refine toList_iff.2 (ba_ext _ _ (by rw [ex_size _ (by omega)]; rfl) (fun i hi => ?_))
      rw [ex_size _ (by omega)] at hi
      obtain rfl : i = 0 := by omega
      rw [← hb, c2]
      rfl
    · rw [decide_eq_false (fun z => c2 z.2), beq_eq_false_iff_ne]
      show ((s.extract a s.size).extract 0 1).toList ≠ _
      intro e
      rw [hb, toList_iff.1 e] at c2
      exact c2 rfl
  · rw [if_neg (by omega), decide_eq_false (fun z => c1 z.1)]
    rfl
/-- What the longest name at a text's beginning is. -/
noncomputable def lgo (t : ByteArray) : Int × Int := if h : ∃ p : Int × Int, LG t p.1 p.2 then Classical.choose h else (-1, 0)
theorem lgo_is {t : ByteArray} (hs : t.size ≤ 9223372036854775806) : LG t (lgo t).1 (lgo t).2 := by
  obtain ⟨K, M, h, _⟩ := longest_is t hs
  have hx : ∃ p : Int × Int, LG t p.1 p.2 := ⟨(K, M), h⟩
  unfold lgo
  rw [dif_pos hx]
  exact Classical.choose_spec hx
theorem lgo_of {t : ByteArray} {k m : Int} (h : LG t k m) : lgo t = (k, m) := by
  have hx : ∃ p : Int × Int, LG t p.1 p.2 := ⟨(k, m), h⟩
  unfold lgo
  rw [dif_pos hx]
  obtain ⟨a, b⟩ := (Classical.choose_spec hx).one h
  exact Prod.ext a b
theorem longest_lgo {t : ByteArray} (hs : t.size ≤ 9223372036854775806) : Ev (fun n => tree_longest.f n t) (lgo t) := by
  obtain ⟨K, M, h, he⟩ := longest_is t hs
  rw [lgo_of h]
  exact he
/-- The closing brackets at a place. -/
noncomputable def cls (s : ByteArray) : Nat → Nat → List Int → List S43 → Nat × List Int × List S43
  | 0, a, o, ns => (a, o, ns)
  | d + 1, a, o, ns => if a < s.size ∧ bt s (a : Int) = 41 ∧ 0 < o.length then
      cls s d (a + 1) (o.take (o.length - 1)) (ns.set (rd o ((o.length - 1 : Nat) : Int)).toNat ⟨(rd_T43 ns (rd o ((o.length - 1 : Nat) : Int))).f0, (rd_T43 ns (rd o ((o.length - 1 : Nat) : Int))).f1, (rd_T43 ns (rd o ((o.length - 1 : Nat) : Int))).f2, (ns.length : Int) - rd o ((o.length - 1 : Nat) : Int)⟩)
    else (a, o, ns)
/-- What both readers say. -/
noncomputable def dgo (s : ByteArray) : Nat → Nat → List Int → List S43 → List S43 × Int × Int
  | 0, _, _, _ => ([], 40, 0)
  | d + 1, a, o, ns =>
    if (lgo (s.extract a s.size)).1 < 0 then ([], 40, (a : Int) + (lgo (s.extract a s.size)).2)
    else if a + (lgo (s.extract a s.size)).2.toNat < s.size ∧ bt s ((a + (lgo (s.extract a s.size)).2.toNat : Nat) : Int) = 40 then
      dgo s d (a + (lgo (s.extract a s.size)).2.toNat + 1) (o ++ [(ns.length : Int)]) (ns ++ [⟨(lgo (s.extract a s.size)).1, 0, 0, 1⟩])
    else
      let q := cls s s.size (a + (lgo (s.extract a s.size)).2.toNat) o (ns ++ [⟨(lgo (s.extract a s.size)).1, 0, 0, 1⟩])
      if q.2.1 = [] then (if q.1 = s.size then (q.2.2, 0, 0) else ([], 40, (q.1 : Int)))
      else if q.1 < s.size ∧ bt s (q.1 : Int) = 32 then dgo s d (q.1 + 1) q.2.1 q.2.2 else ([], 40, (q.1 : Int))
/-- What holds of the open ones and of the nodes. -/
structure DI (s : ByteArray) (a : Nat) (o : List Int) (ns : List S43) : Prop where
  at_ : a ≤ s.size
  len : ns.length ≤ a
  ol : o.length ≤ ns.length
  in_ : ∀ x ∈ o, 0 ≤ x ∧ x < (ns.length : Int)
theorem rd_last {o : List Int} {n : Nat} (h : n < o.length) : rd o (n : Int) ∈ o := by
  have e : rd o (n : Int) = o[n] := by simp [rd, List.getD_eq_getElem?_getD, h]
  rw [e]
  exact List.getElem_mem h
theorem DI.close {s : ByteArray} {a : Nat} {o : List Int} {ns : List S43} (h : DI s a o ns) (ha : a < s.size) (x : S43) (q : Nat) : DI s (a + 1) (o.take (o.length - 1)) (ns.set q x) :=
  ⟨ha, by rw [List.length_set]; have := h.len; omega, by rw [List.length_set, List.length_take]; have := h.ol; omega, fun y hy => by rw [List.length_set]; exact h.in_ y (List.mem_of_mem_take hy)⟩
theorem cls_DI (s : ByteArray) : ∀ (d a : Nat) (o : List Int) (ns : List S43), DI s a o ns → DI s (cls s d a o ns).1 (cls s d a o ns).2.1 (cls s d a o ns).2.2 ∧ a ≤ (cls s d a o ns).1
  | 0, a, o, ns, h => ⟨h, Nat.le_refl _⟩
  | d + 1, a, o, ns, h => by
    simp only [cls]
    split
    · rename_i c
      obtain ⟨x, y⟩ := cls_DI s d (a + 1) _ _ (h.close c.1 _ _)
      exact ⟨x, by omega⟩
    · exact ⟨h, Nat.le_refl _⟩
theorem DI.node {s : ByteArray} {a : Nat} {o : List Int} {ns : List S43} (h : DI s a o ns) {m : Nat} (hm : 1 ≤ m) (ha : a + m ≤ s.size) (x : S43) : DI s (a + m) o (ns ++ [x]) :=
  ⟨ha, by rw [List.length_append, List.length_singleton]; have := h.len; omega, by rw [List.length_append, List.length_singleton]; have := h.ol; omega, fun y hy => by rw [List.length_append, List.length_singleton]; have := h.in_ y hy; omega⟩
theorem DI.open_ {s : ByteArray} {a : Nat} {o : List Int} {ns : List S43} (h : DI s a o ns) {m : Nat} (hm : 1 ≤ m) (ha : a + m < s.size) (x : S43) : DI s (a + m + 1) (o ++ [(ns.length : Int)]) (ns ++ [x]) :=
  ⟨ha, by rw [List.length_append, List.length_singleton]; have := h.len; omega, by rw [List.length_append, List.length_append, List.length_singleton, List.length_singleton]; have := h.ol; omega, fun y hy => by
    rw [List.length_append, List.length_singleton]
    rcases List.mem_append.1 hy with e | e
    · have := h.in_ y e; omega
    · rw [List.mem_singleton.1 e]; omega⟩
theorem DI.gap {s : ByteArray} {a : Nat} {o : List Int} {ns : List S43} (h : DI s a o ns) (ha : a < s.size) : DI s (a + 1) o ns := ⟨ha, by have := h.len; omega, h.ol, h.in_⟩
theorem ar_last {l : Nat} (h : 0 < l) (h2 : l ≤ 1099511627776) : wrap64 ((l : Int) - 1) = ((l - 1 : Nat) : Int) ∧ (l : Int) > 0 ∧ (0 : Int) ≤ ((l - 1 : Nat) : Int) ∧ ((l - 1 : Nat) : Int) < (l : Int) ∧ ((l - 1 : Nat) : Int) ≤ (l : Int) :=
  ⟨by rw [w64 (by omega) (by omega)]; omega, by omega, by omega, by omega, by omega⟩
theorem ar_at {a z : Nat} (h : a ≤ z) (hz : z ≤ 1099511627776) : wrap64 ((a : Int) + 1) = ((a + 1 : Nat) : Int) ∧ (0 : Int) ≤ (a : Int) ∧ (a : Int) ≤ (z : Int) := ⟨by rw [w64 (by omega) (by omega)]; rfl, by omega, by omega⟩
theorem ar_sub {n : Nat} {q : Int} (h0 : 0 ≤ q) (h1 : q < (n : Int)) (hn : n ≤ 1099511627776) : wrap64 ((n : Int) - q) = (n : Int) - q := w64 (by omega) (by omega)
theorem l1_yes (s : ByteArray) (hs : s.size ≤ 1099511627776) {a : Nat} {o : List Int} {ns : List S43} (hi : DI s a o ns) (c1 : 0 < o.length) (c2 : a < s.size ∧ bt s (a : Int) = ((41 : UInt8).toNat : Int)) (n : Nat) :
    tree_Draw.l1 (n + 1) s o ns (a : Int) = tree_Draw.l1 n s (o.take (o.length - 1)) (ns.set (rd o ((o.length - 1 : Nat) : Int)).toNat ⟨(rd_T43 ns (rd o ((o.length - 1 : Nat) : Int))).f0, (rd_T43 ns (rd o ((o.length - 1 : Nat) : Int))).f1, (rd_T43 ns (rd o ((o.length - 1 : Nat) : Int))).f2, (ns.length : Int) - rd o ((o.length - 1 : Nat) : Int)⟩) ((a + 1 : Nat) : Int) := by
  have hp := hp_is s a hi.at_ 41
  have hr := hi.in_ _ (rd_last (n := o.length - 1) (Nat.sub_lt c1 Nat.one_pos))
  have hol : o.length ≤ 1099511627776 := Nat.le_trans hi.ol (Nat.le_trans hi.len (Nat.le_trans hi.at_ hs))
  have hnl : ns.length ≤ 1099511627776 := Nat.le_trans hi.len (Nat.le_trans hi.at_ hs)
  obtain ⟨w1, q1, q4, q5, q6⟩ := ar_last c1 hol
  obtain ⟨w2, q2, q3⟩ := ar_at hi.at_ hs
  have w3 := ar_sub hr.1 hr.2 hnl
  have qt : True := trivial
  rw [tree_Draw.l1]
  simp only [w1, w2, w3, Int.toNat_natCast, hp, decide_eq_true c2, Option.bind_some]
  rw [if_pos q1, if_pos q2, if_pos q3, if_pos qt, if_pos q4, if_pos q5, if_pos hr.1, if_pos hr.2, if_pos q6]
theorem l1_no (s : ByteArray) (hs : s.size ≤ 1099511627776) {a : Nat} {o : List Int} {ns : List S43} (hi : DI s a o ns) (c : ¬ (a < s.size ∧ bt s (a : Int) = ((41 : UInt8).toNat : Int) ∧ 0 < o.length)) (n : Nat) :
    tree_Draw.l1 (n + 1) s o ns (a : Int) = tree_Draw.j2 n s o ns (a : Int) := by
  have hp := hp_is s a hi.at_ 41
  have hol : o.length ≤ 1099511627776 := Nat.le_trans hi.ol (Nat.le_trans hi.len (Nat.le_trans hi.at_ hs))
  obtain ⟨w2, q2, q3⟩ := ar_at hi.at_ hs
  rw [tree_Draw.l1]
  by_cases c1 : 0 < o.length
  · have c2 : ¬ (a < s.size ∧ bt s (a : Int) = ((41 : UInt8).toNat : Int)) := fun z => c ⟨z.1, z.2, c1⟩
    obtain ⟨w1, q1, q4, q5, q6⟩ := ar_last c1 hol
    have qf : ¬ False := fun z => z
    simp only [Int.toNat_natCast, hp, decide_eq_false c2, Option.bind_some, Bool.false_eq_true]
    rw [if_pos q1, if_pos q2, if_pos q3, if_neg qf]
  · have q1 : ¬ (o.length : Int) > 0 := fun z => c1 (Int.natCast_pos.1 z)
    rw [if_neg q1]
/-- tree.Draw's closing loop. -/
theorem draw_l1 (s : ByteArray) (hs : s.size ≤ 1099511627776) (r : List S43 × Int × Int) : ∀ (d a : Nat) (o : List Int) (ns : List S43), s.size - a ≤ d → DI s a o ns →
    Ev (fun n => tree_Draw.j2 n s (cls s d a o ns).2.1 (cls s d a o ns).2.2 ((cls s d a o ns).1 : Int)) r → Ev (fun n => tree_Draw.l1 n s o ns (a : Int)) r
  | 0, a, o, ns, hd, hi, h => Ev.step (fun n => l1_no s hs hi (fun z => by have := z.1; omega) n) h
  | d + 1, a, o, ns, hd, hi, h => by
    simp only [cls] at h
    by_cases c : a < s.size ∧ bt s (a : Int) = 41 ∧ 0 < o.length
    · rw [if_pos c] at h
      exact Ev.step (fun n => l1_yes s hs hi c.2.2 ⟨c.1, c.2.1⟩ n) (draw_l1 s hs r d (a + 1) _ _ (by have := c.1; omega) (hi.close c.1 _ _) h)
    · rw [if_neg c] at h
      exact Ev.step (fun n => l1_no s hs hi c n) h
/-- What comes behind the closing brackets. -/
noncomputable def dend (s : ByteArray) (d a : Nat) (o : List Int) (ns : List S43) : List S43 × Int × Int :=
  if o = [] then (if a = s.size then (ns, 0, 0) else ([], 40, (a : Int)))
  else if a < s.size ∧ bt s (a : Int) = 32 then dgo s d (a + 1) o ns else ([], 40, (a : Int))
theorem len0 {o : List Int} : ((o.length : Int) = 0) ↔ o = [] := by
  rw [← List.length_eq_zero_iff]
  omega
theorem draw_j2 (s : ByteArray) (hs : s.size ≤ 1099511627776) {d a : Nat} {o : List Int} {ns : List S43} (hi : DI s a o ns)
    (ih : a < s.size → Ev (fun n => tree_Draw.l0 n s o ns ((a + 1 : Nat) : Int)) (dgo s d (a + 1) o ns)) : Ev (fun n => tree_Draw.j2 n s o ns (a : Int)) (dend s d a o ns) := by
  have hp := hp_is s a hi.at_ 32
  obtain ⟨w2, q2, q3⟩ := ar_at hi.at_ hs
  have hz : (((a : Nat) : Int) == (s.size : Int)) = decide (a = s.size) := by
    by_cases e : a = s.size
    · rw [decide_eq_true e, e]; simp
    · rw [decide_eq_false e]; simp; exact fun z => e (Int.ofNat.inj z)
  unfold dend
  by_cases c : o = []
  · rw [if_pos c]
    refine Ev.step (f := fun n => tree_Draw.j3 n s o (((a : Nat) : Int) == (s.size : Int)) ns (a : Int)) (fun n => by rw [tree_Draw.j2, if_pos (len0.2 c)]) ?_
    rw [hz]
    by_cases e : a = s.size
    · rw [if_pos e, decide_eq_true e]
      exact Ev.step (f := fun _ => some (ns, 0, 0)) (fun n => by rw [tree_Draw.j3, if_pos rfl]) (Ev.now _)
    · rw [if_neg e, decide_eq_false e]
      refine Ev.step (f := fun _ => some (([] : List S43), (40 : Int), (a : Int))) (fun n => ?_) (Ev.now _)
      rw [tree_Draw.j3, if_neg (fun z => by cases z), if_pos (len0.2 c)]
      rfl
  · rw [if_neg c]
    refine Ev.step (f := fun n => tree_Draw.j3 n s o false ns (a : Int)) (fun n => by rw [tree_Draw.j2, if_neg (fun z => c (len0.1 z))]) ?_
    by_cases e : a < s.size ∧ bt s (a : Int) = ((32 : UInt8).toNat : Int)
    · rw [if_pos (show a < s.size ∧ bt s (a : Int) = 32 from e)]
      refine Ev.step (fun n => ?_) (ih e.1)
      rw [tree_Draw.j3, if_neg (fun z => by cases z), if_neg (fun z => c (len0.1 z)), if_pos q2, if_pos q3]
      simp only [Int.toNat_natCast, hp, decide_eq_true e, Option.bind_some, w2]
      rw [if_pos trivial]
    · rw [if_neg (show ¬ (a < s.size ∧ bt s (a : Int) = 32) from e)]
      refine Ev.step (f := fun _ => some (([] : List S43), (40 : Int), (a : Int))) (fun n => ?_) (Ev.now _)
      rw [tree_Draw.j3, if_neg (fun z => by cases z), if_neg (fun z => c (len0.1 z)), if_pos q2, if_pos q3]
      simp only [Int.toNat_natCast, hp, decide_eq_false e, Option.bind_some, Bool.false_eq_true]
      rw [if_neg (fun z => z)]
      rfl
theorem ar_add {a m z : Nat} (h : a + m ≤ z) (hz : z ≤ 1099511627776) : wrap64 ((a : Int) + (m : Int)) = ((a + m : Nat) : Int) := by rw [w64 (by omega) (by omega)]; rfl
theorem dgo_succ (s : ByteArray) (d a : Nat) (o : List Int) (ns : List S43) {K : Int} {M : Nat} (h : lgo (s.extract a s.size) = (K, (M : Int))) : dgo s (d + 1) a o ns =
    if K < 0 then ([], 40, ((a + M : Nat) : Int))
    else if a + M < s.size ∧ bt s ((a + M : Nat) : Int) = 40 then dgo s d (a + M + 1) (o ++ [(ns.length : Int)]) (ns ++ [⟨K, 0, 0, 1⟩])
    else dend s d (cls s s.size (a + M) o (ns ++ [⟨K, 0, 0, 1⟩])).1 (cls s s.size (a + M) o (ns ++ [⟨K, 0, 0, 1⟩])).2.1 (cls s s.size (a + M) o (ns ++ [⟨K, 0, 0, 1⟩])).2.2 := by
  rw [dgo]
  simp only [h, Int.toNat_natCast]
  rfl
theorem mod256 {K : Int} (h0 : ¬ K < 0) (h1 : K < 58) : K % 256 = K := by omega
/-- A node behind its name. -/
def dbody (k : Nat) (x0 : ByteArray) (x6 : List Int) (x109000 : List S43) (x110000 : Int) (bt110 : Int × Int) : Option (List S43 × Int × Int) := (if bt110.1 < 0 then ((tree_fault.f k (wrap64 (x110000 + bt110.2))).bind fun bt112 => (some (bt112.1, bt112.2.1, bt112.2.2))) else (if x109000.length < 4398046511104 then ((some (x109000 ++ [(⟨(bt110.1) % 256, 0, 0, 1⟩ : S43)] : List (S43))).bind fun y117 => (if 0 ≤ (wrap64 (x110000 + bt110.2)) then (if (wrap64 (x110000 + bt110.2)) ≤ (x0.size : Int) then ((strings_HasPrefix.f (x0.extract ((wrap64 (x110000 + bt110.2)) : Int).toNat x0.size) (⟨#[40]⟩ : ByteArray)).bind fun t120 => (if t120 = true then (if x6.length < 17592186044416 then (tree_Draw.l0 k x0 (x6 ++ [wrap64 ((y117.length : Int) - 1)]) y117 (wrap64 ((wrap64 (x110000 + bt110.2)) + 1))) else (none)) else (tree_Draw.l1 k x0 x6 y117 (wrap64 (x110000 + bt110.2))))) else (none)) else (none))) else (none)))
/-- tree.Draw, from a node on. -/
theorem draw_l0 (s : ByteArray) (hs : s.size ≤ 1099511627776) : ∀ (d a : Nat) (o : List Int) (ns : List S43), s.size - a ≤ d → DI s a o ns → Ev (fun n => tree_Draw.l0 n s o ns (a : Int)) (dgo s (d + 1) a o ns)
  | d, a, o, ns, hd, hi => by
    have hts : (s.extract a s.size).size ≤ 9223372036854775806 := by rw [ex_size _ (Nat.le_refl _)]; omega
    have hL := lgo_is hts
    have hE := longest_lgo hts
    obtain ⟨K, M, hKM⟩ : ∃ (K : Int) (M : Nat), lgo (s.extract a s.size) = (K, (M : Int)) := by
      refine ⟨(lgo (s.extract a s.size)).1, (lgo (s.extract a s.size)).2.toNat, Prod.ext rfl ?_⟩
      exact (Int.toNat_of_nonneg hL.m0.1).symm
    rw [hKM] at hL hE
    have hm := hL.m0
    rw [ex_size _ (Nat.le_refl _)] at hm
    have ha := hi.at_
    have hM : a + M ≤ s.size := by omega
    obtain ⟨w2, q2, q3⟩ := ar_at ha hs
    obtain ⟨w5, q5, q6⟩ := ar_at hM hs
    have w3 := ar_add hM hs
    have hp := hp_is s (a + M) hM 40
    have hin := hL.in_
    rw [dgo_succ s d a o ns hKM]
    have hnl : ns.length < 4398046511104 := by have := hi.len; omega
    have hol : o.length < 17592186044416 := by have := hi.len; have := hi.ol; omega
    have hwl : wrap64 (((ns ++ [(⟨K, 0, 0, 1⟩ : S43)]).length : Int) - 1) = (ns.length : Int) := by
      rw [List.length_append, List.length_singleton, w64 (by have := hi.len; omega) (by have := hi.len; omega)]; omega
    refine Ev.step (f := fun n => (tree_longest.f n (s.extract a s.size)).bind fun bt => dbody n s o ns (a : Int) bt) (fun n => by rw [tree_Draw.l0, if_pos q2, if_pos q3]; rfl) (Ev.bind hE ?_)
    unfold dbody
    simp only [w3]
    by_cases ck : K < 0
    · simp only [if_pos ck]
      exact Ev.now _
    · have hpos : 1 ≤ M := by have := hL.pos ck; omega
      simp only [if_neg ck, mod256 ck hin.2, if_pos hnl, Option.bind_some, if_pos q5, if_pos q6, Int.toNat_natCast, hp, w5, hwl]
      by_cases c : a + M < s.size ∧ bt s ((a + M : Nat) : Int) = ((40 : UInt8).toNat : Int)
      · simp only [decide_eq_true c, if_true, if_pos hol]
        rw [if_pos (show a + M < s.size ∧ bt s ((a + M : Nat) : Int) = 40 from c)]
        obtain ⟨d, rfl⟩ : ∃ e, d = e + 1 := ⟨d - 1, by omega⟩
        exact draw_l0 s hs d (a + M + 1) _ _ (by omega) (hi.open_ hpos c.1 _)
      · simp only [decide_eq_false c, Bool.false_eq_true, if_false]
        rw [if_neg (show ¬ (a + M < s.size ∧ bt s ((a + M : Nat) : Int) = 40) from c)]
        have hn := hi.node hpos hM ⟨K, 0, 0, 1⟩
        refine draw_l1 s hs _ s.size (a + M) _ _ (by omega) hn ?_
        obtain ⟨x, y⟩ := cls_DI s s.size (a + M) _ _ hn
        refine draw_j2 s hs x (fun z => ?_)
        obtain ⟨d, rfl⟩ : ∃ e, d = e + 1 := ⟨d - 1, by omega⟩
        exact draw_l0 s hs d _ _ _ (by omega) (x.gap z)
termination_by d => d
/-! ### The document's reader -/
theorem DI.zero (s : ByteArray) : DI s 0 [] [] := ⟨Nat.zero_le _, Nat.le_refl _, Nat.le_refl _, fun x h => by cases h⟩
theorem dgo_len (s : ByteArray) : ∀ (d a : Nat) (o : List Int) (ns : List S43), DI s a o ns → s.size ≤ 9223372036854775806 → (dgo s d a o ns).1.length ≤ s.size
  | 0, a, o, ns, h, hs => by simp [dgo]
  | d + 1, a, o, ns, h, hs => by
    have hsz : (s.extract a s.size).size = s.size - a := ex_size _ (Nat.le_refl _)
    have hL := lgo_is (t := s.extract a s.size) (by rw [hsz]; omega)
    obtain ⟨K, M, hKM⟩ : ∃ (K : Int) (M : Nat), lgo (s.extract a s.size) = (K, (M : Int)) := by
      refine ⟨(lgo (s.extract a s.size)).1, (lgo (s.extract a s.size)).2.toNat, Prod.ext rfl ?_⟩
      exact (Int.toNat_of_nonneg hL.m0.1).symm
    rw [hKM] at hL
    have hm := hL.m0
    rw [hsz] at hm
    have ha := h.at_
    have hM : a + M ≤ s.size := by omega
    rw [dgo_succ s d a o ns hKM]
    split
    · simp
    · rename_i ck
      have hpos : 1 ≤ M := by have := hL.pos ck; omega
      split
      · rename_i c
        exact dgo_len s d _ _ _ (h.open_ hpos c.1 _) hs
      · have hn := h.node hpos hM ⟨K, 0, 0, 1⟩
        obtain ⟨x, y⟩ := cls_DI s s.size (a + M) _ _ hn
        unfold dend
        split
        · split
          · exact Nat.le_trans x.len x.at_
          · simp
        · split
          · rename_i z
            exact dgo_len s d _ _ _ (x.gap z.1) hs
          · simp
end Go.Proofs.YtodldpdnhcafpaaDoor.Q

-- the kids' list, plainly (mkq0.py)
namespace Go.Proofs.YtodldpdnhcafpaaDoor.Q
open Go.RowKit Go.Proofs.YtodldpdnhcafpaaDoorW.PrintWords Go.Proofs.YtodldpdnhcafpaaDoorW.PrintLast Go.Proofs.YtodldpdnhcafpaaDoorW.PrintMore
open Go.Proofs.YtodldpdnhcafpaaDoor.F
set_option linter.unusedSimpArgs false
set_option linter.unusedVariables false

theorem kw64 {x : Int} (h0 : -9223372036854775808 ≤ x) (h1 : x ≤ 9223372036854775807) : wrap64 x = x := by unfold wrap64; omega
/-- The kids' numbers up to the first that is out of order; whether none is. -/
def kgo (l : List S43) (en : Int) : Nat → List Int → Int → List Int × Bool
  | 0, pre, _ => (pre, true)
  | d + 1, pre, x => if x < en then (if (rd_T43 l x).f3 < 1 then (pre ++ [x], false) else if (rd_T43 l x).f3 > en - x then (pre ++ [x], false) else kgo l en d (pre ++ [x]) (x + (rd_T43 l x).f3)) else (pre, true)
def sizedB (l : List S43) (n : Int) : Bool := decide (0 ≤ n) && (decide (n < (l.length : Int)) && (decide (1 ≤ (rd_T43 l n).f3) && decide ((rd_T43 l n).f3 ≤ (l.length : Int) - n)))
def kspec (l : List S43) (n : Int) : List Int × Bool := if sizedB l n = true then kgo l (n + (rd_T43 l n).f3) l.length [] (n + 1) else ([], false)
end Go.Proofs.YtodldpdnhcafpaaDoor.Q

-- A text of this session's own program (wip/myprint.sh over a changed print tool): functions and their walks
namespace Go.Proofs.YtodldpdnhcafpaaDoor.F
open Go.RowKit Go.Proofs.YtodldpdnhcafpaaDoorW.PrintWords Go.Proofs.YtodldpdnhcafpaaDoorW.PrintLast Go.Proofs.YtodldpdnhcafpaaDoorW.PrintMore
attribute [local go_sem] max2_int min2_int max_two min_two max_three min_three max_four min_four   -- for this text's walks alone
set_option linter.unusedVariables false
set_option linter.unusedSimpArgs false

/-! ### tree_shaped: function 38 -/
mutual
def tree_shaped.j0 : Nat → Bool → List (S43) → Option (Bool)
  | 0, _, _ => none
  | k + 1, x21, x169000 => if x21 = true then (some false) else (tree_shaped.l0 k ([] : List Int) x169000 (x169000.length : Int) 0 x169000)
def tree_shaped.l0 : Nat → List Int → List (S43) → Int → Int → List (S43) → Option (Bool)
  | 0, _, _, _, _, _ => none
  | k + 1, x3, x23, x24, x25, x169000 => if x25 < x24 then (if 0 ≤ x25 then (if x25 < (x23.length : Int) then (tree_shaped.l1 k x3 x25 x23 x24 x25 x169000 ((rd_T43 x23 x25).f0) ((rd_T43 x23 x25).f1) ((rd_T43 x23 x25).f2) ((rd_T43 x23 x25).f3)) else (none)) else (none)) else (some true)
def tree_shaped.j3 : Nat → List Int → Int → List (S43) → Int → Int → List (S43) → Int → Int → Int → Int → Option (Bool)
  | 0, _, _, _, _, _, _, _, _, _, _ => none
  | k + 1, x3, x4, x23, x24, x25, x169000, x172000, x172001, x172002, x172003 => if (x3.length : Int) > 0 then (if 0 ≤ (wrap64 ((x3.length : Int) - 1)) then (if (wrap64 ((x3.length : Int) - 1)) < (x3.length : Int) then (if x172000 ≥ 58 then (some false) else (if x172003 < 1 then (some false) else (if x172003 > (wrap64 ((rd x3 (wrap64 ((x3.length : Int) - 1))) - x4)) then (some false) else (if x3.length < 17592186044416 then (tree_shaped.l0 k (x3 ++ [wrap64 (x4 + x172003)]) x23 x24 (wrap64 (x25 + 1)) x169000) else (none))))) else (none)) else (none)) else (if x172000 ≥ 58 then (some false) else (if x172003 < 1 then (some false) else (if x172003 > (wrap64 ((x169000.length : Int) - x4)) then (some false) else (if x3.length < 17592186044416 then (tree_shaped.l0 k (x3 ++ [wrap64 (x4 + x172003)]) x23 x24 (wrap64 (x25 + 1)) x169000) else (none)))))
def tree_shaped.l1 : Nat → List Int → Int → List (S43) → Int → Int → List (S43) → Int → Int → Int → Int → Option (Bool)
  | 0, _, _, _, _, _, _, _, _, _, _ => none
  | k + 1, x3, x4, x23, x24, x25, x169000, x172000, x172001, x172002, x172003 => if (x3.length : Int) > 0 then (if 0 ≤ (wrap64 ((x3.length : Int) - 1)) then (if (wrap64 ((x3.length : Int) - 1)) < (x3.length : Int) then (if (rd x3 (wrap64 ((x3.length : Int) - 1))) = x4 then (if (wrap64 ((x3.length : Int) - 1)) ≤ (x3.length : Int) then (tree_shaped.l1 k (x3.take ((wrap64 ((x3.length : Int) - 1)) : Int).toNat) x4 x23 x24 x25 x169000 x172000 x172001 x172002 x172003) else (none)) else (tree_shaped.j3 k x3 x4 x23 x24 x25 x169000 x172000 x172001 x172002 x172003)) else (none)) else (none)) else (tree_shaped.j3 k x3 x4 x23 x24 x25 x169000 x172000 x172001 x172002 x172003)
end
def tree_shaped.f (k : Nat) (l0_0 : List (S43)) : Option (Bool) := if (l0_0.length : Int) = 0 then (tree_shaped.j0 k true l0_0) else (if 0 < (l0_0.length : Int) then (tree_shaped.j0 k (((rd_T43 l0_0 0).f3) != (l0_0.length : Int)) l0_0) else (none))
set_option maxHeartbeats 8000000 in
set_option maxRecDepth 100000 in
theorem tree_shaped.calls (k : Nat) (A0_0 : Option Addr) (c0_0 : Nat) (l0_0 : List (S43)) (r : Bool) (w : World) (hr0_0 : Kd.C k43 w A0_0 l0_0.length l0_0) (hc0_0 : l0_0.length ≤ c0_0) (h : tree_shaped.f k l0_0 = some r) :
    Calls Tryd.prog 38 #[.agg #[.slice A0_0 l0_0.length c0_0]] w fun e w' => e = .returned (.bool r) ∧ Below w.heap.size w w' := by
  have hu24 := Tryd.underlying24
  have hu43 := Tryd.underlying43
  have HR0_0 := Aside0.mk hr0_0
  have HC0_0 := Aside0.mk hc0_0
  clear hr0_0 hc0_0
  have HB := Aside0.mk (Below.refl w.heap.size w)
  have H : (if (l0_0.length : Int) = 0 then (tree_shaped.j0 k true l0_0) else (if 0 < (l0_0.length : Int) then (tree_shaped.j0 k (((rd_T43 l0_0 0).f3) != (l0_0.length : Int)) l0_0) else (none))) = some r := h
  clear h
  have HC2 := Aside0.mk H
  clear H
  go_enter Tryd.func38, Tryd.ntmps38
  go_upto_region 1 with (first | ((with_reducible refine gate_dst (N := 1) rfl ?_); (try (refine gate_guard (by rfl) ?_; dsimp only)); refine box_event ?hg (N := 1) ?hd (cs := #[.slice A0_0 l0_0.length c0_0]) (t := 24) ?hr ?_; (case hd => rfl); (case hg => rfl); (case hr => first | (go_simp; done) | (go_simp; rfl)); intro gb168 hg w3 hbox hb; have n0_ := Aside0.mk (below_step (by repeat (first | (with_reducible first | exact HB.out | apply below_alloc | apply pw_below_drewN | apply below_drew1) | exact HB.out)) hb); have n1_ := Aside0.mk (hbox); have n2_ := Aside0.mk ((by rw [hg]; exact (below_size (by repeat (first | (with_reducible first | exact HB.out | apply below_alloc | apply pw_below_drewN | apply below_drew1) | exact HB.out))) : w.heap.size ≤ gb168)); have n3_ := Aside0.mk ((by rw [hg]; exact (below_size (by repeat (first | (with_reducible first | exact HB.out | apply below_alloc | apply pw_below_drewN | apply below_drew1) | exact HB.out))) : w.heap.size ≤ gb168)); clear HB; have HB := n0_; have BK168 := n1_; have GW168 := n2_; have GE168 := n3_; clear n0_ n1_ n2_ n3_; clear hb hbox hg))
  repeat (go_quiet (first | ((with_reducible refine gate_dst (N := 1) rfl ?_); (try (refine gate_guard (by rfl) ?_; dsimp only)); refine box_event ?hg (N := 1) ?hd (cs := #[.slice A0_0 l0_0.length c0_0]) (t := 24) ?hr ?_; (case hd => rfl); (case hg => rfl); (case hr => first | (go_simp; done) | (go_simp; rfl)); intro gb168 hg w3 hbox hb; have n0_ := Aside0.mk (below_step (by repeat (first | (with_reducible first | exact HB.out | apply below_alloc | apply pw_below_drewN | apply below_drew1) | exact HB.out)) hb); have n1_ := Aside0.mk (hbox); have n2_ := Aside0.mk ((by rw [hg]; exact (below_size (by repeat (first | (with_reducible first | exact HB.out | apply below_alloc | apply pw_below_drewN | apply below_drew1) | exact HB.out))) : w.heap.size ≤ gb168)); have n3_ := Aside0.mk ((by rw [hg]; exact (below_size (by repeat (first | (with_reducible first | exact HB.out | apply below_alloc | apply pw_below_drewN | apply below_drew1) | exact HB.out))) : w.heap.size ≤ gb168)); clear HB; have HB := n0_; have BK168 := n1_; have GW168 := n2_; have GE168 := n3_; clear n0_ n1_ n2_ n3_; clear hb hbox hg)); go_upto_region 1 with (first | ((with_reducible refine gate_dst (N := 1) rfl ?_); (try (refine gate_guard (by rfl) ?_; dsimp only)); refine box_event ?hg (N := 1) ?hd (cs := #[.slice A0_0 l0_0.length c0_0]) (t := 24) ?hr ?_; (case hd => rfl); (case hg => rfl); (case hr => first | (go_simp; done) | (go_simp; rfl)); intro gb168 hg w3 hbox hb; have n0_ := Aside0.mk (below_step (by repeat (first | (with_reducible first | exact HB.out | apply below_alloc | apply pw_below_drewN | apply below_drew1) | exact HB.out)) hb); have n1_ := Aside0.mk (hbox); have n2_ := Aside0.mk ((by rw [hg]; exact (below_size (by repeat (first | (with_reducible first | exact HB.out | apply below_alloc | apply pw_below_drewN | apply below_drew1) | exact HB.out))) : w.heap.size ≤ gb168)); have n3_ := Aside0.mk ((by rw [hg]; exact (below_size (by repeat (first | (with_reducible first | exact HB.out | apply below_alloc | apply pw_below_drewN | apply below_drew1) | exact HB.out))) : w.heap.size ≤ gb168)); clear HB; have HB := n0_; have BK168 := n1_; have GW168 := n2_; have GE168 := n3_; clear n0_ n1_ n2_ n3_; clear hb hbox hg)))
  (try simp only [Act.put, List.setIfInBounds_toArray, List.set_cons_zero, List.set_cons_succ])
  go_cut [21] (fun v21 wc => ∃ (kq : Nat) (x21_1 : Bool), v21 = .bool x21_1 ∧ Aside0 (tree_shaped.j0 kq x21_1 l0_0 = some r) ∧ Aside0 (kq ≤ k) ∧ Aside0 (wc.heap[gb168]? = some (.cells #[(.slice A0_0 l0_0.length c0_0)] 24 (0, 0))) ∧ Aside0 (Below w.heap.size w wc))
  case first =>
    have H := HC2.out
    clear HC2
    by_cases c4 : (l0_0.length : Int) = 0
    · rw [if_pos c4] at H
      have c4b0 : ((l0_0.length : Int) == 0) = true := beq_iff_eq.mpr c4
      have c4b1 : ((l0_0.length : Int) != 0) = false := bne_eq_false_iff_eq.mpr c4
      clear c4
      (first | rw [c4b0] | (simp only [i64_w, i32_w]; rw [c4b0]) | skip)
      have H' := Aside0.mk H
      clear H
      have hcz5_0 : w3.cell? ⟨gb168, 0, none⟩ = some (.slice A0_0 l0_0.length c0_0) := (blk_cell BK168.out 0).trans rfl
      have hfz5_0 := blk_frozen BK168.out 0
      go_wp2
      repeat (go_quiet (fail); try go_wp2)
      go_meet
      case rel => exact ⟨_, (true), (by first | rfl | (simp; done) | (simp [*]; done)), H', ⟨by first | omega | exact Nat.le_refl _⟩, ⟨by (with_reducible repeat (first | refine blk_drewN ?_ _ | refine blk_drew ?_ | refine blk_alloc ?_ _)); exact BK168.out⟩, ⟨by repeat (first | (with_reducible first | exact HB.out | apply below_alloc | apply pw_below_drewN | apply below_drew1 | refine below_set ?_ GE168.out) | exact HB.out)⟩⟩
    · rw [if_neg c4] at H
      have c4b0 : ((l0_0.length : Int) == 0) = false := beq_eq_false_iff_ne.mpr c4
      have c4b1 : ((l0_0.length : Int) != 0) = true := bne_iff_ne.mpr c4
      have c4b2 : ¬ (l0_0 = []) := fun h_ => c4 (by rw [h_]; rfl)
      (first | rw [c4b0] | (simp only [i64_w, i32_w]; rw [c4b0]) | skip)
      by_cases c6 : 0 < (l0_0.length : Int)
      · rw [if_pos c6] at H
        have c6b0 : decide (0 < (l0_0.length : Int)) = true := decide_eq_true c6
        have c6b1 : decide (0 < l0_0.length) = true := decide_eq_true (by omega)
        clear c6
        have H' := Aside0.mk H
        clear H
        have hcz7_0 : w3.cell? ⟨gb168, 0, none⟩ = some (.slice A0_0 l0_0.length c0_0) := (blk_cell BK168.out 0).trans rfl
        have hfz7_0 := blk_frozen BK168.out 0
        have p169 : 0 ≤ (0 : Int) := (by omega)
        have q169 : 0 < (l0_0.length : Int) := of_decide_eq_true (by first | (with_reducible assumption) | assumption)
        obtain ⟨ad169, e169, hx169_0, hx169_1, hx169_2, hx169_3⟩ := at_T43 HR0_0.out 0 p169 q169
        cases e169
        have qi169 : (0 < l0_0.length) = True := eq_true (by omega)
        (try rw [show ((0 : Int)).toNat = 0 from rfl] at hx169_0)
        (try rw [show 0 * 4 = 0 from rfl] at hx169_0)
        (try rw [Addr.add_zero'] at hx169_0)
        (try rw [show ((0 : Int)).toNat = 0 from rfl] at hx169_1)
        (try rw [show 0 * 4 = 0 from rfl] at hx169_1)
        (try rw [Addr.add_zero'] at hx169_1)
        (try rw [show ((0 : Int)).toNat = 0 from rfl] at hx169_2)
        (try rw [show 0 * 4 = 0 from rfl] at hx169_2)
        (try rw [Addr.add_zero'] at hx169_2)
        (try rw [show ((0 : Int)).toNat = 0 from rfl] at hx169_3)
        (try rw [show 0 * 4 = 0 from rfl] at hx169_3)
        (try rw [Addr.add_zero'] at hx169_3)
        replace hx169_0 := (HB.out.cell (World.block_lt_of_cell? w _ hx169_0)).trans hx169_0
        replace hx169_1 := (HB.out.cell (World.block_lt_of_cell? w _ hx169_1)).trans hx169_1
        replace hx169_2 := (HB.out.cell (World.block_lt_of_cell? w _ hx169_2)).trans hx169_2
        replace hx169_3 := (HB.out.cell (World.block_lt_of_cell? w _ hx169_3)).trans hx169_3
        replace p169 := eq_true p169
        replace q169 := eq_true q169
        go_wp2
        repeat (go_quiet (fail); try go_wp2)
        go_meet
        case rel => exact ⟨_, ((((rd_T43 l0_0 0).f3) != (l0_0.length : Int))), (by first | rfl | (simp; done) | (simp [*]; done)), H', ⟨by first | omega | exact Nat.le_refl _⟩, ⟨by (with_reducible repeat (first | refine blk_drewN ?_ _ | refine blk_drew ?_ | refine blk_alloc ?_ _)); exact BK168.out⟩, ⟨by repeat (first | (with_reducible first | exact HB.out | apply below_alloc | apply pw_below_drewN | apply below_drew1 | refine below_set ?_ GE168.out) | exact HB.out)⟩⟩
      · rw [if_neg c6] at H
        exact absurd H (by simp)
  case rest =>
    clear HC2
    try clear p1
    try clear q1
    try clear hx1
    try clear qi1
    try clear p2
    try clear c3
    try clear c4
    try clear c4b0
    try clear c4b1
    try clear c4b2
    try clear c6
    try clear c6b0
    try clear c6b1
    try clear hcz5_0
    try clear hcz7_0
    try clear hfz5_0
    try clear hfz7_0
    try clear hx169_0
    try clear hx169_1
    try clear hx169_2
    try clear hx169_3
    try clear p169
    try clear q169
    obtain ⟨kq, x21_1, rfl, HA, HJ1, BK168, HB⟩ := hcut
    cases kq with
    | zero => exact absurd HA.out (by simp [tree_shaped.j0])
    | succ kj1 =>
      have H := HA.out
      clear HA
      simp only [tree_shaped.j0] at H
      by_cases c8 : x21_1 = true
      · subst c8
        have H1 : (some false) = some r := by rw [if_pos rfl] at H; exact H
        clear H
        have H := H1
        clear H1
        obtain rfl := Option.some.inj H
        go_wp2
        repeat (go_quiet (fail); try go_wp2)
        go_ret
        exact ⟨by first | rfl | (simp [errW_none, errW_some] <;> rfl) | (simp [*, errW_none, errW_some] <;> rfl), by repeat (first | (with_reducible first | exact HB.out | apply below_alloc | apply pw_below_drewN | apply below_drew1 | refine below_set ?_ GE168.out) | exact HB.out)⟩
      · replace c8 := Bool.eq_false_iff.mpr c8
        subst c8
        have H1 : (tree_shaped.l0 kj1 ([] : List Int) l0_0 (l0_0.length : Int) 0 l0_0) = some r := by rw [if_neg (show ¬ (false = true) by decide)] at H; exact H
        clear H
        have H := H1
        clear H1
        have H' := Aside0.mk H
        clear H
        have hcz9_0 : wc.cell? ⟨gb168, 0, none⟩ = some (.slice A0_0 l0_0.length c0_0) := (blk_cell BK168.out 0).trans rfl
        have hfz9_0 := blk_frozen BK168.out 0
        go_wp2
        repeat (go_quiet (fail); try go_wp2)
        go_loopg [3, 25] kj1 (fun kq v3 v25 w' => ∃ (x3_2 : List Int) (x25_2 : Int), v25 = .int .i64 x25_2 ∧ Aside0 (tree_shaped.l0 kq x3_2 l0_0 (l0_0.length : Int) x25_2 l0_0 = some r) ∧ Aside0 (kq ≤ kj1) ∧ Aside0 (Kd.R (Kd.int .i64) 3 w' w.heap.size (fun _ => True) v3 x3_2) ∧ Aside0 (w'.heap[gb168]? = some (.cells #[(.slice A0_0 l0_0.length c0_0)] 24 (0, 0))) ∧ Aside0 (Below w.heap.size w w'))
        case atStart => exact ⟨(([] : List Int)), (0), (by first | rfl | (simp; done) | (simp [*]; done)), H', ⟨Nat.le_refl _⟩, ⟨by first | exact Kd.R_nil _ _ _ _ _ | exact Kd.N_nil _ _ _ _ _ | exact Kd.V_nil _ _ _ _ _ | exact Kd.Q_nil _ _ _ _ _ | exact Kd.S_nil _ _ _ _ _⟩, ⟨by (with_reducible repeat (first | refine blk_drewN ?_ _ | refine blk_drew ?_ | refine blk_alloc ?_ _)); exact BK168.out⟩, ⟨by repeat (first | (with_reducible first | exact HB.out | apply below_alloc | apply pw_below_drewN | apply below_drew1 | refine below_set ?_ GE168.out) | exact HB.out)⟩⟩
        case round =>
          clear H'
          try clear p1
          try clear q1
          try clear hx1
          try clear qi1
          try clear p2
          try clear c3
          try clear c4
          try clear c4b0
          try clear c4b1
          try clear c4b2
          try clear c6
          try clear c6b0
          try clear c6b1
          try clear c8
          try clear hcz5_0
          try clear hcz7_0
          try clear hcz9_0
          try clear hfz5_0
          try clear hfz7_0
          try clear hfz9_0
          try clear hx169_0
          try clear hx169_1
          try clear hx169_2
          try clear hx169_3
          try clear p1
          try clear p169
          try clear p2
          try clear q1
          try clear q169
          obtain ⟨x3_2, x25_2, rfl, HA, HK2, HO_3, BK168, HB⟩ := hrel
          cases gk with
          | zero => exact absurd HA.out (by simp [tree_shaped.l0])
          | succ k2 =>
            have H := HA.out
            clear HA
            simp only [tree_shaped.l0] at H
            by_cases c10 : x25_2 < (l0_0.length : Int)
            · rw [if_pos c10] at H
              have c10b0 : decide (x25_2 < (l0_0.length : Int)) = true := decide_eq_true c10
              clear c10
              by_cases c11 : 0 ≤ x25_2
              · rw [if_pos c11] at H
                have c11b0 : decide (0 ≤ x25_2) = true := decide_eq_true c11
                clear c11
                by_cases c12 : x25_2 < (l0_0.length : Int)
                · rw [if_pos c12] at H
                  have c12b0 : decide (x25_2 < (l0_0.length : Int)) = true := decide_eq_true c12
                  clear c12
                  have HC13 := Aside0.mk H
                  clear H
                  have p170 : 0 ≤ (x25_2 : Int) := of_decide_eq_true (by first | (with_reducible assumption) | assumption)
                  have q170 : x25_2 < (l0_0.length : Int) := of_decide_eq_true (by first | (with_reducible assumption) | assumption)
                  obtain ⟨ad170, e170, hx170_0, hx170_1, hx170_2, hx170_3⟩ := at_T43 HR0_0.out x25_2 p170 q170
                  cases e170
                  replace hx170_0 := (HB.out.cell (World.block_lt_of_cell? w _ hx170_0)).trans hx170_0
                  replace hx170_1 := (HB.out.cell (World.block_lt_of_cell? w _ hx170_1)).trans hx170_1
                  replace hx170_2 := (HB.out.cell (World.block_lt_of_cell? w _ hx170_2)).trans hx170_2
                  replace hx170_3 := (HB.out.cell (World.block_lt_of_cell? w _ hx170_3)).trans hx170_3
                  replace p170 := eq_true p170
                  replace q170 := eq_true q170
                  go_upto_block 2 with (first | ((with_reducible refine gate_dst (N := 5) rfl ?_); (try (refine gate_guard (by rfl) ?_; dsimp only)); refine box_event ?hg (N := 5) ?hd (cs := #[.int .u8 0, .int .i64 0, .int .i64 0, .int .i64 0]) (t := 43) ?hr ?_; (case hd => rfl); (case hg => rfl); (case hr => first | (go_simp; done) | (go_simp; rfl)); intro gb171 hg w14 hbox hb; have n0_ := Aside0.mk (Kd.R_below (by (with_reducible repeat (first | apply Kd.R_alloc | apply Kd.R_drewN | apply Kd.R_drew)); exact HO_3.out) hb); have n1_ := Aside0.mk (blk_below (g := gb168) (o := .cells #[.slice (some ad170) l0_0.length c0_0] 24 (0, 0)) (by (with_reducible repeat (first | refine blk_drewN ?_ _ | refine blk_drew ?_ | refine blk_alloc ?_ _)); exact BK168.out) hb); have n2_ := Aside0.mk (below_step (by repeat (first | (with_reducible first | exact HB.out | apply below_alloc | apply pw_below_drewN | apply below_drew1 | refine below_set ?_ GE168.out) | exact HB.out)) hb); have n3_ := Aside0.mk (hbox); have n4_ := Aside0.mk ((by rw [hg]; exact (below_size (by repeat (first | (with_reducible first | exact HB.out | apply below_alloc | apply pw_below_drewN | apply below_drew1 | refine below_set ?_ GE168.out) | exact HB.out))) : w.heap.size ≤ gb171)); have n5_ := Aside0.mk ((by rw [hg]; exact (below_size (by repeat (first | (with_reducible first | exact HB.out | apply below_alloc | apply pw_below_drewN | apply below_drew1 | refine below_set ?_ GE168.out) | exact HB.out))) : w.heap.size ≤ gb171)); have n6_ := Aside0.mk ((by rw [hg]; exact Nat.ne_of_lt (blk_lt (g := gb168) (o := .cells #[.slice (some ad170) l0_0.length c0_0] 24 (0, 0)) (by (with_reducible repeat (first | refine blk_drewN ?_ _ | refine blk_drew ?_ | refine blk_alloc ?_ _)); exact BK168.out)) : gb168 ≠ gb171)); have n7_ := Aside0.mk ((by rw [hg]; exact Nat.ne_of_gt (blk_lt (g := gb168) (o := .cells #[.slice (some ad170) l0_0.length c0_0] 24 (0, 0)) (by (with_reducible repeat (first | refine blk_drewN ?_ _ | refine blk_drew ?_ | refine blk_alloc ?_ _)); exact BK168.out)) : gb171 ≠ gb168)); clear HO_3; clear BK168; clear HB; have HO_3 := n0_; have BK168 := n1_; have HB := n2_; have BK171 := n3_; have GW171 := n4_; have GE171 := n5_; have NB168_171 := n6_; have NB171_168 := n7_; clear n0_ n1_ n2_ n3_ n4_ n5_ n6_ n7_; clear hb hbox hg; have hnb15 := NB171_168.out; have hnc15 := NB168_171.out; have hcz16_0 : w14.cell? ⟨gb171, 0, none⟩ = some (.int .u8 0) := (blk_cell BK171.out 0).trans rfl; have hcz16_1 : w14.cell? ⟨gb171, 1, none⟩ = some (.int .i64 0) := (blk_cell BK171.out 1).trans rfl; have hcz16_2 : w14.cell? ⟨gb171, 2, none⟩ = some (.int .i64 0) := (blk_cell BK171.out 2).trans rfl; have hcz16_3 : w14.cell? ⟨gb171, 3, none⟩ = some (.int .i64 0) := (blk_cell BK171.out 3).trans rfl; have hfz16_0 := blk_frozen BK171.out 0; have hfz16_1 := blk_frozen BK171.out 1; have hfz16_2 := blk_frozen BK171.out 2; have hfz16_3 := blk_frozen BK171.out 3))
                  repeat (go_quiet (first | ((with_reducible refine gate_dst (N := 5) rfl ?_); (try (refine gate_guard (by rfl) ?_; dsimp only)); refine box_event ?hg (N := 5) ?hd (cs := #[.int .u8 0, .int .i64 0, .int .i64 0, .int .i64 0]) (t := 43) ?hr ?_; (case hd => rfl); (case hg => rfl); (case hr => first | (go_simp; done) | (go_simp; rfl)); intro gb171 hg w14 hbox hb; have n0_ := Aside0.mk (Kd.R_below (by (with_reducible repeat (first | apply Kd.R_alloc | apply Kd.R_drewN | apply Kd.R_drew)); exact HO_3.out) hb); have n1_ := Aside0.mk (blk_below (g := gb168) (o := .cells #[.slice (some ad170) l0_0.length c0_0] 24 (0, 0)) (by (with_reducible repeat (first | refine blk_drewN ?_ _ | refine blk_drew ?_ | refine blk_alloc ?_ _)); exact BK168.out) hb); have n2_ := Aside0.mk (below_step (by repeat (first | (with_reducible first | exact HB.out | apply below_alloc | apply pw_below_drewN | apply below_drew1 | refine below_set ?_ GE168.out) | exact HB.out)) hb); have n3_ := Aside0.mk (hbox); have n4_ := Aside0.mk ((by rw [hg]; exact (below_size (by repeat (first | (with_reducible first | exact HB.out | apply below_alloc | apply pw_below_drewN | apply below_drew1 | refine below_set ?_ GE168.out) | exact HB.out))) : w.heap.size ≤ gb171)); have n5_ := Aside0.mk ((by rw [hg]; exact (below_size (by repeat (first | (with_reducible first | exact HB.out | apply below_alloc | apply pw_below_drewN | apply below_drew1 | refine below_set ?_ GE168.out) | exact HB.out))) : w.heap.size ≤ gb171)); have n6_ := Aside0.mk ((by rw [hg]; exact Nat.ne_of_lt (blk_lt (g := gb168) (o := .cells #[.slice (some ad170) l0_0.length c0_0] 24 (0, 0)) (by (with_reducible repeat (first | refine blk_drewN ?_ _ | refine blk_drew ?_ | refine blk_alloc ?_ _)); exact BK168.out)) : gb168 ≠ gb171)); have n7_ := Aside0.mk ((by rw [hg]; exact Nat.ne_of_gt (blk_lt (g := gb168) (o := .cells #[.slice (some ad170) l0_0.length c0_0] 24 (0, 0)) (by (with_reducible repeat (first | refine blk_drewN ?_ _ | refine blk_drew ?_ | refine blk_alloc ?_ _)); exact BK168.out)) : gb171 ≠ gb168)); clear HO_3; clear BK168; clear HB; have HO_3 := n0_; have BK168 := n1_; have HB := n2_; have BK171 := n3_; have GW171 := n4_; have GE171 := n5_; have NB168_171 := n6_; have NB171_168 := n7_; clear n0_ n1_ n2_ n3_ n4_ n5_ n6_ n7_; clear hb hbox hg; have hnb15 := NB171_168.out; have hnc15 := NB168_171.out; have hcz16_0 : w14.cell? ⟨gb171, 0, none⟩ = some (.int .u8 0) := (blk_cell BK171.out 0).trans rfl; have hcz16_1 : w14.cell? ⟨gb171, 1, none⟩ = some (.int .i64 0) := (blk_cell BK171.out 1).trans rfl; have hcz16_2 : w14.cell? ⟨gb171, 2, none⟩ = some (.int .i64 0) := (blk_cell BK171.out 2).trans rfl; have hcz16_3 : w14.cell? ⟨gb171, 3, none⟩ = some (.int .i64 0) := (blk_cell BK171.out 3).trans rfl; have hfz16_0 := blk_frozen BK171.out 0; have hfz16_1 := blk_frozen BK171.out 1; have hfz16_2 := blk_frozen BK171.out 2; have hfz16_3 := blk_frozen BK171.out 3)); go_upto_block 2 with (first | ((with_reducible refine gate_dst (N := 5) rfl ?_); (try (refine gate_guard (by rfl) ?_; dsimp only)); refine box_event ?hg (N := 5) ?hd (cs := #[.int .u8 0, .int .i64 0, .int .i64 0, .int .i64 0]) (t := 43) ?hr ?_; (case hd => rfl); (case hg => rfl); (case hr => first | (go_simp; done) | (go_simp; rfl)); intro gb171 hg w14 hbox hb; have n0_ := Aside0.mk (Kd.R_below (by (with_reducible repeat (first | apply Kd.R_alloc | apply Kd.R_drewN | apply Kd.R_drew)); exact HO_3.out) hb); have n1_ := Aside0.mk (blk_below (g := gb168) (o := .cells #[.slice (some ad170) l0_0.length c0_0] 24 (0, 0)) (by (with_reducible repeat (first | refine blk_drewN ?_ _ | refine blk_drew ?_ | refine blk_alloc ?_ _)); exact BK168.out) hb); have n2_ := Aside0.mk (below_step (by repeat (first | (with_reducible first | exact HB.out | apply below_alloc | apply pw_below_drewN | apply below_drew1 | refine below_set ?_ GE168.out) | exact HB.out)) hb); have n3_ := Aside0.mk (hbox); have n4_ := Aside0.mk ((by rw [hg]; exact (below_size (by repeat (first | (with_reducible first | exact HB.out | apply below_alloc | apply pw_below_drewN | apply below_drew1 | refine below_set ?_ GE168.out) | exact HB.out))) : w.heap.size ≤ gb171)); have n5_ := Aside0.mk ((by rw [hg]; exact (below_size (by repeat (first | (with_reducible first | exact HB.out | apply below_alloc | apply pw_below_drewN | apply below_drew1 | refine below_set ?_ GE168.out) | exact HB.out))) : w.heap.size ≤ gb171)); have n6_ := Aside0.mk ((by rw [hg]; exact Nat.ne_of_lt (blk_lt (g := gb168) (o := .cells #[.slice (some ad170) l0_0.length c0_0] 24 (0, 0)) (by (with_reducible repeat (first | refine blk_drewN ?_ _ | refine blk_drew ?_ | refine blk_alloc ?_ _)); exact BK168.out)) : gb168 ≠ gb171)); have n7_ := Aside0.mk ((by rw [hg]; exact Nat.ne_of_gt (blk_lt (g := gb168) (o := .cells #[.slice (some ad170) l0_0.length c0_0] 24 (0, 0)) (by (with_reducible repeat (first | refine blk_drewN ?_ _ | refine blk_drew ?_ | refine blk_alloc ?_ _)); exact BK168.out)) : gb171 ≠ gb168)); clear HO_3; clear BK168; clear HB; have HO_3 := n0_; have BK168 := n1_; have HB := n2_; have BK171 := n3_; have GW171 := n4_; have GE171 := n5_; have NB168_171 := n6_; have NB171_168 := n7_; clear n0_ n1_ n2_ n3_ n4_ n5_ n6_ n7_; clear hb hbox hg; have hnb15 := NB171_168.out; have hnc15 := NB168_171.out; have hcz16_0 : w14.cell? ⟨gb171, 0, none⟩ = some (.int .u8 0) := (blk_cell BK171.out 0).trans rfl; have hcz16_1 : w14.cell? ⟨gb171, 1, none⟩ = some (.int .i64 0) := (blk_cell BK171.out 1).trans rfl; have hcz16_2 : w14.cell? ⟨gb171, 2, none⟩ = some (.int .i64 0) := (blk_cell BK171.out 2).trans rfl; have hcz16_3 : w14.cell? ⟨gb171, 3, none⟩ = some (.int .i64 0) := (blk_cell BK171.out 3).trans rfl; have hfz16_0 := blk_frozen BK171.out 0; have hfz16_1 := blk_frozen BK171.out 1; have hfz16_2 := blk_frozen BK171.out 2; have hfz16_3 := blk_frozen BK171.out 3)))
                  (try simp only [Act.put, List.setIfInBounds_toArray, List.set_cons_zero, List.set_cons_succ])
                  go_cut [3] (fun v3 wc => ∃ (kq : Nat) (x3_12 : List Int), Aside0 (tree_shaped.j3 kq x3_12 x25_2 l0_0 (l0_0.length : Int) x25_2 l0_0 ((rd_T43 l0_0 x25_2).f0) ((rd_T43 l0_0 x25_2).f1) ((rd_T43 l0_0 x25_2).f2) ((rd_T43 l0_0 x25_2).f3) = some r) ∧ Aside0 (kq ≤ k2) ∧ Aside0 (Kd.R (Kd.int .i64) 3 wc w.heap.size (fun _ => True) v3 x3_12) ∧ Aside0 (wc.heap[gb168]? = some (.cells #[(.slice (some ad170) l0_0.length c0_0)] 24 (0, 0))) ∧ Aside0 (wc.heap[gb171]? = some (.cells #[.int .u8 ((rd_T43 l0_0 x25_2).f0), .int .i64 ((rd_T43 l0_0 x25_2).f1), .int .i64 ((rd_T43 l0_0 x25_2).f2), .int .i64 ((rd_T43 l0_0 x25_2).f3)] 43 (0, 0))) ∧ Aside0 (Below w.heap.size w wc))
                  case first =>
                    have H := HC13.out
                    clear HC13
                    have H' := Aside0.mk H
                    clear H
                    go_wp2
                    repeat (go_quiet (fail); try go_wp2)
                    go_loopg [3] k2 (fun kq v3 w' => ∃ (x3_3 : List Int), Aside0 (tree_shaped.l1 kq x3_3 x25_2 l0_0 (l0_0.length : Int) x25_2 l0_0 ((rd_T43 l0_0 x25_2).f0) ((rd_T43 l0_0 x25_2).f1) ((rd_T43 l0_0 x25_2).f2) ((rd_T43 l0_0 x25_2).f3) = some r) ∧ Aside0 (kq ≤ k2) ∧ Aside0 (Kd.R (Kd.int .i64) 3 w' w.heap.size (fun _ => True) v3 x3_3) ∧ Aside0 (w'.heap[gb168]? = some (.cells #[(.slice (some ad170) l0_0.length c0_0)] 24 (0, 0))) ∧ Aside0 (w'.heap[gb171]? = some (.cells #[.int .u8 ((rd_T43 l0_0 x25_2).f0), .int .i64 ((rd_T43 l0_0 x25_2).f1), .int .i64 ((rd_T43 l0_0 x25_2).f2), .int .i64 ((rd_T43 l0_0 x25_2).f3)] 43 (0, 0))) ∧ Aside0 (Below w.heap.size w w'))
                    case atStart => exact ⟨(x3_2), H', ⟨Nat.le_refl _⟩, ⟨by (with_reducible repeat (first | apply Kd.R_alloc | apply Kd.R_drewN | apply Kd.R_drew)); exact Kd.R_mono (Kd.R_far (p := ⟨gb171, 3, none⟩) (Kd.R_far (p := ⟨gb171, 2, none⟩) (Kd.R_far (p := ⟨gb171, 1, none⟩) (Kd.R_far (p := ⟨gb171, 0, none⟩) (Kd.R_types HO_3.out BK171.out (by decide)) (fun _ hk => hk.2) (.int .u8 ((rd_T43 l0_0 x25_2).f0))) (fun _ hk => hk.2) (.int .i64 ((rd_T43 l0_0 x25_2).f1))) (fun _ hk => hk.2) (.int .i64 ((rd_T43 l0_0 x25_2).f2))) (fun _ hk => hk.2) (.int .i64 ((rd_T43 l0_0 x25_2).f3))) (fun _ hk => trivial)⟩, ⟨by (with_reducible repeat (first | refine blk_drewN ?_ _ | refine blk_drew ?_ | refine blk_alloc ?_ _)); refine blk_far ?_ NB168_171.out _; (with_reducible repeat (first | refine blk_drewN ?_ _ | refine blk_drew ?_ | refine blk_alloc ?_ _)); refine blk_far ?_ NB168_171.out _; (with_reducible repeat (first | refine blk_drewN ?_ _ | refine blk_drew ?_ | refine blk_alloc ?_ _)); refine blk_far ?_ NB168_171.out _; (with_reducible repeat (first | refine blk_drewN ?_ _ | refine blk_drew ?_ | refine blk_alloc ?_ _)); refine blk_far ?_ NB168_171.out _; (with_reducible repeat (first | refine blk_drewN ?_ _ | refine blk_drew ?_ | refine blk_alloc ?_ _)); exact BK168.out⟩, ⟨by (with_reducible repeat (first | refine blk_drewN ?_ _ | refine blk_drew ?_ | refine blk_alloc ?_ _)); refine blk_put (cs := #[.int .u8 ((rd_T43 l0_0 x25_2).f0), .int .i64 ((rd_T43 l0_0 x25_2).f1), .int .i64 ((rd_T43 l0_0 x25_2).f2), .int .i64 0]) ?_ 3 _ rfl; (with_reducible repeat (first | refine blk_drewN ?_ _ | refine blk_drew ?_ | refine blk_alloc ?_ _)); refine blk_put (cs := #[.int .u8 ((rd_T43 l0_0 x25_2).f0), .int .i64 ((rd_T43 l0_0 x25_2).f1), .int .i64 0, .int .i64 0]) ?_ 2 _ rfl; (with_reducible repeat (first | refine blk_drewN ?_ _ | refine blk_drew ?_ | refine blk_alloc ?_ _)); refine blk_put (cs := #[.int .u8 ((rd_T43 l0_0 x25_2).f0), .int .i64 0, .int .i64 0, .int .i64 0]) ?_ 1 _ rfl; (with_reducible repeat (first | refine blk_drewN ?_ _ | refine blk_drew ?_ | refine blk_alloc ?_ _)); refine blk_put (cs := #[.int .u8 0, .int .i64 0, .int .i64 0, .int .i64 0]) ?_ 0 _ rfl; (with_reducible repeat (first | refine blk_drewN ?_ _ | refine blk_drew ?_ | refine blk_alloc ?_ _)); exact BK171.out⟩, ⟨by repeat (first | (with_reducible first | exact HB.out | apply below_alloc | apply pw_below_drewN | apply below_drew1 | refine below_set ?_ GE168.out | refine below_set ?_ GE171.out) | exact HB.out)⟩⟩
                    case round =>
                      clear H'
                      try clear c1
                      try clear p1
                      try clear q1
                      try clear hx1
                      try clear qi1
                      try clear p2
                      try clear c3
                      try clear c4
                      try clear c4b0
                      try clear c4b1
                      try clear c4b2
                      try clear c6
                      try clear c6b0
                      try clear c6b1
                      try clear c8
                      try clear c10
                      try clear c10b0
                      try clear c11
                      try clear c11b0
                      try clear c12
                      try clear c12b0
                      try clear c15
                      try clear p16
                      try clear q16
                      try clear hx16
                      try clear qi16
                      try clear hcz16_0
                      try clear hcz16_1
                      try clear hcz16_2
                      try clear hcz16_3
                      try clear hcz5_0
                      try clear hcz7_0
                      try clear hcz9_0
                      try clear hfz16_0
                      try clear hfz16_1
                      try clear hfz16_2
                      try clear hfz16_3
                      try clear hfz5_0
                      try clear hfz7_0
                      try clear hfz9_0
                      try clear hx169_0
                      try clear hx169_1
                      try clear hx169_2
                      try clear hx169_3
                      try clear hx170_0
                      try clear hx170_1
                      try clear hx170_2
                      try clear hx170_3
                      try clear p1
                      try clear p169
                      try clear p170
                      try clear p2
                      try clear q1
                      try clear q169
                      try clear q170
                      obtain ⟨x3_3, HA, HK3, HO_3, BK168, BK171, HB⟩ := hrel
                      cases gk with
                      | zero => exact absurd HA.out (by simp [tree_shaped.l1])
                      | succ k3 =>
                        have H := HA.out
                        clear HA
                        simp only [tree_shaped.l1] at H
                        by_cases c17 : (x3_3.length : Int) > 0
                        · rw [if_pos c17] at H
                          have c17b0 : decide (0 < (x3_3.length : Int)) = true := decide_eq_true c17
                          have c17b1 : decide (0 < x3_3.length) = true := decide_eq_true (by omega)
                          clear c17
                          (first | rw [c17b0] | (simp only [i64_w, i32_w]; rw [c17b0]) | skip)
                          obtain ⟨ji18, hji18⟩ : ∃ j_ : Int, (wrap64 ((x3_3.length : Int) - 1)) = j_ := ⟨_, rfl⟩
                          replace H : (if 0 ≤ (ji18) then (if (ji18) < (x3_3.length : Int) then (if (rd x3_3 (ji18)) = x25_2 then (if (ji18) ≤ (x3_3.length : Int) then (tree_shaped.l1 k3 (x3_3.take ((ji18) : Int).toNat) x25_2 l0_0 (l0_0.length : Int) x25_2 l0_0 ((rd_T43 l0_0 x25_2).f0) ((rd_T43 l0_0 x25_2).f1) ((rd_T43 l0_0 x25_2).f2) ((rd_T43 l0_0 x25_2).f3)) else (none)) else (tree_shaped.j3 k3 x3_3 x25_2 l0_0 (l0_0.length : Int) x25_2 l0_0 ((rd_T43 l0_0 x25_2).f0) ((rd_T43 l0_0 x25_2).f1) ((rd_T43 l0_0 x25_2).f2) ((rd_T43 l0_0 x25_2).f3))) else (none)) else (none)) = some r := by first | (rw [hji18] at H; exact H) | (simp only [hji18] at H ⊢; exact H)
                          have hji18w : (IntKind.i64.wrap ((x3_3.length : Int) - 1)) = ji18 := (i64_w _).trans hji18
                          by_cases c19 : 0 ≤ (ji18)
                          · rw [if_pos c19] at H
                            have c19b0 : decide (0 ≤ (ji18)) = true := decide_eq_true c19
                            clear c19
                            by_cases c20 : (ji18) < (x3_3.length : Int)
                            · rw [if_pos c20] at H
                              have c20b0 : decide ((ji18) < (x3_3.length : Int)) = true := decide_eq_true c20
                              clear c20
                              by_cases c21 : (rd x3_3 (ji18)) = x25_2
                              · rw [if_pos c21] at H
                                have c21b0 : ((rd x3_3 (ji18)) == x25_2) = true := beq_iff_eq.mpr c21
                                have c21b1 : ((rd x3_3 (ji18)) != x25_2) = false := bne_eq_false_iff_eq.mpr c21
                                clear c21
                                by_cases c22 : (ji18) ≤ (x3_3.length : Int)
                                · rw [if_pos c22] at H
                                  have c22b0 := eq_true c22
                                  have c22b1 : decide ((ji18) ≤ (x3_3.length : Int)) = true := decide_eq_true c22
                                  clear c22
                                  obtain ⟨y173, hy173⟩ : ∃ y_ : List Int, y_ = (x3_3.take ((ji18) : Int).toNat) := ⟨_, rfl⟩
                                  replace H : (tree_shaped.l1 k3 y173 x25_2 l0_0 (l0_0.length : Int) x25_2 l0_0 ((rd_T43 l0_0 x25_2).f0) ((rd_T43 l0_0 x25_2).f1) ((rd_T43 l0_0 x25_2).f2) ((rd_T43 l0_0 x25_2).f3)) = some r := by first | (rw [hy173]; with_reducible exact H) | (have H2_ := (Option.bind_some _ _).symm.trans H; rw [hy173]; with_reducible exact H2_) | (have H2_ := (Option.bind_some _ _).symm.trans H; with_reducible exact H2_) | with_reducible exact H | (rw [hy173]; exact H) | exact H
                                  have Ny173 := Aside0.mk hy173
                                  clear hy173
                                  have H' := Aside0.mk H
                                  clear H
                                  obtain ⟨Ao23, co23, eo23⟩ := Kd.R_slice HO_3.out
                                  subst eo23
                                  have p172 : 0 ≤ ((ji18) : Int) := of_decide_eq_true (by first | (with_reducible assumption) | assumption)
                                  have q172 : (ji18) < (x3_3.length : Int) := of_decide_eq_true (by first | (with_reducible assumption) | assumption)
                                  obtain ⟨ad172, e172, hx172_0⟩ := Kd.at_int (Kd.R_reads' HO_3.out).2.2 (ji18) p172 q172
                                  cases e172
                                  replace p172 := eq_true p172
                                  replace q172 := eq_true q172
                                  have q24 : ((ji18) : Int) ≤ ((x3_3.length : Int) : Int) := of_decide_eq_true (by first | (with_reducible assumption) | assumption)
                                  obtain ⟨i024, hi024, _, hsz24, _⟩ := info_parts info3
                                  have hcut24 := cut_to (P := Tryd.prog) 55 3 .i64 Tryd.underlying55 hi024 (some ad172) x3_3.length co23 (ji18) (of_decide_eq_true (by first | (with_reducible assumption) | assumption)) q24 (Kd.R_reads' HO_3.out).2.1
                                  have hr24 := Kd.R_take (m := ((ji18) : Int).toNat) HO_3.out (by omega)
                                  have hy24 : y173.length = ((ji18) : Int).toNat := (by rw [Ny173.out, List.length_take]; omega)
                                  rw [← Ny173.out] at hr24
                                  rw [← hy24] at hr24 hcut24
                                  clear hy24 hi024 hsz24 HO_3
                                  have HO175 := Aside0.mk hr24
                                  clear hr24
                                  replace q24 := eq_true q24
                                  go_wp2
                                  repeat (go_quiet (fail); try go_wp2)
                                  go_roundg k3
                                  case measure => have := HJ1.out; have := HK2.out; have := HK3.out; omega
                                  case rel => exact ⟨(y173), H', ⟨by have := HJ1.out; have := HK2.out; have := HK3.out; omega⟩, ⟨by (with_reducible repeat (first | apply Kd.R_alloc | apply Kd.R_drewN | apply Kd.R_drew)); exact HO175.out⟩, ⟨by (with_reducible repeat (first | refine blk_drewN ?_ _ | refine blk_drew ?_ | refine blk_alloc ?_ _)); exact BK168.out⟩, ⟨by (with_reducible repeat (first | refine blk_drewN ?_ _ | refine blk_drew ?_ | refine blk_alloc ?_ _)); exact BK171.out⟩, ⟨by repeat (first | (with_reducible first | exact HB.out | apply below_alloc | apply pw_below_drewN | apply below_drew1 | refine below_set ?_ GE168.out | refine below_set ?_ GE171.out) | exact HB.out)⟩⟩
                                · rw [if_neg c22] at H
                                  exact absurd H (by simp)
                              · rw [if_neg c21] at H
                                have c21b0 : ((rd x3_3 (ji18)) == x25_2) = false := beq_eq_false_iff_ne.mpr c21
                                have c21b1 : ((rd x3_3 (ji18)) != x25_2) = true := bne_iff_ne.mpr c21
                                have H' := Aside0.mk H
                                clear H
                                obtain ⟨Ao25, co25, eo25⟩ := Kd.R_slice HO_3.out
                                subst eo25
                                have p172 : 0 ≤ ((ji18) : Int) := of_decide_eq_true (by first | (with_reducible assumption) | assumption)
                                have q172 : (ji18) < (x3_3.length : Int) := of_decide_eq_true (by first | (with_reducible assumption) | assumption)
                                obtain ⟨ad172, e172, hx172_0⟩ := Kd.at_int (Kd.R_reads' HO_3.out).2.2 (ji18) p172 q172
                                cases e172
                                replace p172 := eq_true p172
                                replace q172 := eq_true q172
                                go_wp2
                                repeat (go_quiet (fail); try go_wp2)
                                go_meet
                                case rel => exact ⟨_, (x3_3), H', ⟨by have := HJ1.out; have := HK2.out; have := HK3.out; first | omega | exact Nat.le_refl _⟩, ⟨by (with_reducible repeat (first | apply Kd.R_alloc | apply Kd.R_drewN | apply Kd.R_drew)); exact HO_3.out⟩, ⟨by (with_reducible repeat (first | refine blk_drewN ?_ _ | refine blk_drew ?_ | refine blk_alloc ?_ _)); exact BK168.out⟩, ⟨by (with_reducible repeat (first | refine blk_drewN ?_ _ | refine blk_drew ?_ | refine blk_alloc ?_ _)); exact BK171.out⟩, ⟨by repeat (first | (with_reducible first | exact HB.out | apply below_alloc | apply pw_below_drewN | apply below_drew1 | refine below_set ?_ GE168.out | refine below_set ?_ GE171.out) | exact HB.out)⟩⟩
                            · rw [if_neg c20] at H
                              exact absurd H (by simp)
                          · rw [if_neg c19] at H
                            exact absurd H (by simp)
                        · rw [if_neg c17] at H
                          have c17b0 : decide (0 < (x3_3.length : Int)) = false := decide_eq_false c17
                          have c17b1 : decide (0 < x3_3.length) = false := decide_eq_false (by omega)
                          clear c17
                          (first | rw [c17b0] | (simp only [i64_w, i32_w]; rw [c17b0]) | skip)
                          have H' := Aside0.mk H
                          clear H
                          obtain ⟨Ao26, co26, eo26⟩ := Kd.R_slice HO_3.out
                          subst eo26
                          go_wp2
                          repeat (go_quiet (fail); try go_wp2)
                          go_meet
                          case rel => exact ⟨_, (x3_3), H', ⟨by have := HJ1.out; have := HK2.out; have := HK3.out; first | omega | exact Nat.le_refl _⟩, ⟨by (with_reducible repeat (first | apply Kd.R_alloc | apply Kd.R_drewN | apply Kd.R_drew)); exact HO_3.out⟩, ⟨by (with_reducible repeat (first | refine blk_drewN ?_ _ | refine blk_drew ?_ | refine blk_alloc ?_ _)); exact BK168.out⟩, ⟨by (with_reducible repeat (first | refine blk_drewN ?_ _ | refine blk_drew ?_ | refine blk_alloc ?_ _)); exact BK171.out⟩, ⟨by repeat (first | (with_reducible first | exact HB.out | apply below_alloc | apply pw_below_drewN | apply below_drew1 | refine below_set ?_ GE168.out | refine below_set ?_ GE171.out) | exact HB.out)⟩⟩
                  case rest =>
                    clear HC13
                    try clear c1
                    try clear p1
                    try clear q1
                    try clear hx1
                    try clear qi1
                    try clear c2
                    try clear p2
                    try clear q2
                    try clear c3
                    try clear c4
                    try clear c4b0
                    try clear c4b1
                    try clear c4b2
                    try clear c6
                    try clear c6b0
                    try clear c6b1
                    try clear p6
                    try clear c8
                    try clear c10
                    try clear c10b0
                    try clear c11
                    try clear c11b0
                    try clear c12
                    try clear c12b0
                    try clear c15
                    try clear p16
                    try clear q16
                    try clear hx16
                    try clear qi16
                    try clear c17
                    try clear c17b0
                    try clear c17b1
                    try clear p17
                    try clear q17
                    try clear hx17
                    try clear c19
                    try clear c19b0
                    try clear c20
                    try clear c20b0
                    try clear c21
                    try clear c21b0
                    try clear c21b1
                    try clear c22
                    try clear c22b0
                    try clear c22b1
                    try clear q24
                    try clear hcz16_0
                    try clear hcz16_1
                    try clear hcz16_2
                    try clear hcz16_3
                    try clear hcz5_0
                    try clear hcz7_0
                    try clear hcz9_0
                    try clear hfz16_0
                    try clear hfz16_1
                    try clear hfz16_2
                    try clear hfz16_3
                    try clear hfz5_0
                    try clear hfz7_0
                    try clear hfz9_0
                    try clear hx169_0
                    try clear hx169_1
                    try clear hx169_2
                    try clear hx169_3
                    try clear hx170_0
                    try clear hx170_1
                    try clear hx170_2
                    try clear hx170_3
                    try clear hx172_0
                    try clear p1
                    try clear p16
                    try clear p169
                    try clear p170
                    try clear p172
                    try clear p2
                    try clear q1
                    try clear q16
                    try clear q169
                    try clear q170
                    try clear q172
                    try clear q24
                    obtain ⟨kq, x3_12, HA, HJ12, HO_3, BK168, BK171, HB⟩ := hcut
                    cases kq with
                    | zero => exact absurd HA.out (by simp [tree_shaped.j3])
                    | succ kj12 =>
                      have H := HA.out
                      clear HA
                      simp only [tree_shaped.j3] at H
                      by_cases c27 : (x3_12.length : Int) > 0
                      · rw [if_pos c27] at H
                        have c27b0 : decide (0 < (x3_12.length : Int)) = true := decide_eq_true c27
                        have c27b1 : decide (0 < x3_12.length) = true := decide_eq_true (by omega)
                        clear c27
                        obtain ⟨ji28, hji28⟩ : ∃ j_ : Int, (wrap64 ((x3_12.length : Int) - 1)) = j_ := ⟨_, rfl⟩
                        replace H : (if 0 ≤ (ji28) then (if (ji28) < (x3_12.length : Int) then (if ((rd_T43 l0_0 x25_2).f0) ≥ 58 then (some false) else (if ((rd_T43 l0_0 x25_2).f3) < 1 then (some false) else (if ((rd_T43 l0_0 x25_2).f3) > (wrap64 ((rd x3_12 (ji28)) - x25_2)) then (some false) else (if x3_12.length < 17592186044416 then (tree_shaped.l0 kj12 (x3_12 ++ [wrap64 (x25_2 + ((rd_T43 l0_0 x25_2).f3))]) l0_0 (l0_0.length : Int) (wrap64 (x25_2 + 1)) l0_0) else (none))))) else (none)) else (none)) = some r := by first | (rw [hji28] at H; exact H) | (simp only [hji28] at H ⊢; exact H)
                        have hji28w : (IntKind.i64.wrap ((x3_12.length : Int) - 1)) = ji28 := (i64_w _).trans hji28
                        by_cases c29 : 0 ≤ (ji28)
                        · rw [if_pos c29] at H
                          have c29b0 : decide (0 ≤ (ji28)) = true := decide_eq_true c29
                          clear c29
                          by_cases c30 : (ji28) < (x3_12.length : Int)
                          · rw [if_pos c30] at H
                            have c30b0 : decide ((ji28) < (x3_12.length : Int)) = true := decide_eq_true c30
                            clear c30
                            by_cases c31 : ((rd_T43 l0_0 x25_2).f0) ≥ 58
                            · rw [if_pos c31] at H
                              have c31b0 : decide (58 ≤ ((rd_T43 l0_0 x25_2).f0)) = true := decide_eq_true c31
                              clear c31
                              obtain rfl := Option.some.inj H
                              have hnb32 := NB168_171.out
                              have hnc32 := NB171_168.out
                              have hcz33_0 : wc.cell? ⟨gb168, 0, none⟩ = some (.slice (some ad170) l0_0.length c0_0) := (blk_cell BK168.out 0).trans rfl
                              have hfz33_0 := blk_frozen BK168.out 0
                              obtain ⟨Ao34, co34, eo34⟩ := Kd.R_slice HO_3.out
                              subst eo34
                              have p176 : 0 ≤ ((ji28) : Int) := of_decide_eq_true (by first | (with_reducible assumption) | assumption)
                              have q176 : (ji28) < (x3_12.length : Int) := of_decide_eq_true (by first | (with_reducible assumption) | assumption)
                              obtain ⟨ad176, e176, hx176_0⟩ := Kd.at_int (Kd.R_reads' HO_3.out).2.2 (ji28) p176 q176
                              cases e176
                              replace p176 := eq_true p176
                              replace q176 := eq_true q176
                              have hcz35_0 : wc.cell? ⟨gb171, 0, none⟩ = some (.int .u8 ((rd_T43 l0_0 x25_2).f0)) := (blk_cell BK171.out 0).trans rfl
                              have hcz35_1 : wc.cell? ⟨gb171, 1, none⟩ = some (.int .i64 ((rd_T43 l0_0 x25_2).f1)) := (blk_cell BK171.out 1).trans rfl
                              have hcz35_2 : wc.cell? ⟨gb171, 2, none⟩ = some (.int .i64 ((rd_T43 l0_0 x25_2).f2)) := (blk_cell BK171.out 2).trans rfl
                              have hcz35_3 : wc.cell? ⟨gb171, 3, none⟩ = some (.int .i64 ((rd_T43 l0_0 x25_2).f3)) := (blk_cell BK171.out 3).trans rfl
                              have hfz35_0 := blk_frozen BK171.out 0
                              have hfz35_1 := blk_frozen BK171.out 1
                              have hfz35_2 := blk_frozen BK171.out 2
                              have hfz35_3 := blk_frozen BK171.out 3
                              go_wp2
                              repeat (go_quiet (fail); try go_wp2)
                              go_ret
                              exact ⟨by first | rfl | (simp [errW_none, errW_some] <;> rfl) | (simp only [← hji28]; first | rfl | (simp [errW_none, errW_some] <;> rfl)) | (simp [*, errW_none, errW_some] <;> rfl), by repeat (first | (with_reducible first | exact HB.out | apply below_alloc | apply pw_below_drewN | apply below_drew1 | refine below_set ?_ GE168.out | refine below_set ?_ GE171.out) | exact HB.out)⟩
                            · rw [if_neg c31] at H
                              have c31b0 : decide (58 ≤ ((rd_T43 l0_0 x25_2).f0)) = false := decide_eq_false c31
                              clear c31
                              by_cases c36 : ((rd_T43 l0_0 x25_2).f3) < 1
                              · rw [if_pos c36] at H
                                have c36b0 : decide (((rd_T43 l0_0 x25_2).f3) < 1) = true := decide_eq_true c36
                                clear c36
                                obtain rfl := Option.some.inj H
                                have hnb37 := NB168_171.out
                                have hnc37 := NB171_168.out
                                have hcz38_0 : wc.cell? ⟨gb168, 0, none⟩ = some (.slice (some ad170) l0_0.length c0_0) := (blk_cell BK168.out 0).trans rfl
                                have hfz38_0 := blk_frozen BK168.out 0
                                obtain ⟨Ao39, co39, eo39⟩ := Kd.R_slice HO_3.out
                                subst eo39
                                have p176 : 0 ≤ ((ji28) : Int) := of_decide_eq_true (by first | (with_reducible assumption) | assumption)
                                have q176 : (ji28) < (x3_12.length : Int) := of_decide_eq_true (by first | (with_reducible assumption) | assumption)
                                obtain ⟨ad176, e176, hx176_0⟩ := Kd.at_int (Kd.R_reads' HO_3.out).2.2 (ji28) p176 q176
                                cases e176
                                replace p176 := eq_true p176
                                replace q176 := eq_true q176
                                have hcz40_0 : wc.cell? ⟨gb171, 0, none⟩ = some (.int .u8 ((rd_T43 l0_0 x25_2).f0)) := (blk_cell BK171.out 0).trans rfl
                                have hcz40_1 : wc.cell? ⟨gb171, 1, none⟩ = some (.int .i64 ((rd_T43 l0_0 x25_2).f1)) := (blk_cell BK171.out 1).trans rfl
                                have hcz40_2 : wc.cell? ⟨gb171, 2, none⟩ = some (.int .i64 ((rd_T43 l0_0 x25_2).f2)) := (blk_cell BK171.out 2).trans rfl
                                have hcz40_3 : wc.cell? ⟨gb171, 3, none⟩ = some (.int .i64 ((rd_T43 l0_0 x25_2).f3)) := (blk_cell BK171.out 3).trans rfl
                                have hfz40_0 := blk_frozen BK171.out 0
                                have hfz40_1 := blk_frozen BK171.out 1
                                have hfz40_2 := blk_frozen BK171.out 2
                                have hfz40_3 := blk_frozen BK171.out 3
                                go_wp2
                                repeat (go_quiet (fail); try go_wp2)
                                go_ret
                                exact ⟨by first | rfl | (simp [errW_none, errW_some] <;> rfl) | (simp only [← hji28]; first | rfl | (simp [errW_none, errW_some] <;> rfl)) | (simp [*, errW_none, errW_some] <;> rfl), by repeat (first | (with_reducible first | exact HB.out | apply below_alloc | apply pw_below_drewN | apply below_drew1 | refine below_set ?_ GE168.out | refine below_set ?_ GE171.out) | exact HB.out)⟩
                              · rw [if_neg c36] at H
                                have c36b0 : decide (((rd_T43 l0_0 x25_2).f3) < 1) = false := decide_eq_false c36
                                clear c36
                                by_cases c41 : ((rd_T43 l0_0 x25_2).f3) > (wrap64 ((rd x3_12 (ji28)) - x25_2))
                                · rw [if_pos c41] at H
                                  have c41b0 : decide ((wrap64 ((rd x3_12 (ji28)) - x25_2)) < ((rd_T43 l0_0 x25_2).f3)) = true := decide_eq_true c41
                                  clear c41
                                  obtain rfl := Option.some.inj H
                                  have hnb42 := NB168_171.out
                                  have hnc42 := NB171_168.out
                                  have hcz43_0 : wc.cell? ⟨gb168, 0, none⟩ = some (.slice (some ad170) l0_0.length c0_0) := (blk_cell BK168.out 0).trans rfl
                                  have hfz43_0 := blk_frozen BK168.out 0
                                  obtain ⟨Ao44, co44, eo44⟩ := Kd.R_slice HO_3.out
                                  subst eo44
                                  have p176 : 0 ≤ ((ji28) : Int) := of_decide_eq_true (by first | (with_reducible assumption) | assumption)
                                  have q176 : (ji28) < (x3_12.length : Int) := of_decide_eq_true (by first | (with_reducible assumption) | assumption)
                                  obtain ⟨ad176, e176, hx176_0⟩ := Kd.at_int (Kd.R_reads' HO_3.out).2.2 (ji28) p176 q176
                                  cases e176
                                  replace p176 := eq_true p176
                                  replace q176 := eq_true q176
                                  have hcz45_0 : wc.cell? ⟨gb171, 0, none⟩ = some (.int .u8 ((rd_T43 l0_0 x25_2).f0)) := (blk_cell BK171.out 0).trans rfl
                                  have hcz45_1 : wc.cell? ⟨gb171, 1, none⟩ = some (.int .i64 ((rd_T43 l0_0 x25_2).f1)) := (blk_cell BK171.out 1).trans rfl
                                  have hcz45_2 : wc.cell? ⟨gb171, 2, none⟩ = some (.int .i64 ((rd_T43 l0_0 x25_2).f2)) := (blk_cell BK171.out 2).trans rfl
                                  have hcz45_3 : wc.cell? ⟨gb171, 3, none⟩ = some (.int .i64 ((rd_T43 l0_0 x25_2).f3)) := (blk_cell BK171.out 3).trans rfl
                                  have hfz45_0 := blk_frozen BK171.out 0
                                  have hfz45_1 := blk_frozen BK171.out 1
                                  have hfz45_2 := blk_frozen BK171.out 2
                                  have hfz45_3 := blk_frozen BK171.out 3
                                  go_wp2
                                  repeat (go_quiet (fail); try go_wp2)
                                  go_ret
                                  exact ⟨by first | rfl | (simp [errW_none, errW_some] <;> rfl) | (simp only [← hji28]; first | rfl | (simp [errW_none, errW_some] <;> rfl)) | (simp [*, errW_none, errW_some] <;> rfl), by repeat (first | (with_reducible first | exact HB.out | apply below_alloc | apply pw_below_drewN | apply below_drew1 | refine below_set ?_ GE168.out | refine below_set ?_ GE171.out) | exact HB.out)⟩
                                · rw [if_neg c41] at H
                                  have c41b0 : decide ((wrap64 ((rd x3_12 (ji28)) - x25_2)) < ((rd_T43 l0_0 x25_2).f3)) = false := decide_eq_false c41
                                  clear c41
                                  by_cases c46 : x3_12.length < 17592186044416
                                  · rw [if_pos c46] at H
                                    have LMc46 := Aside0.mk c46
                                    clear c46
                                    obtain ⟨y177, hy177⟩ : ∃ y_ : List Int, y_ = (x3_12 ++ [wrap64 (x25_2 + ((rd_T43 l0_0 x25_2).f3))]) := ⟨_, rfl⟩
                                    replace H : (tree_shaped.l0 kj12 y177 l0_0 (l0_0.length : Int) (wrap64 (x25_2 + 1)) l0_0) = some r := by first | (rw [hy177]; with_reducible exact H) | (have H2_ := (Option.bind_some _ _).symm.trans H; rw [hy177]; with_reducible exact H2_) | (have H2_ := (Option.bind_some _ _).symm.trans H; with_reducible exact H2_) | with_reducible exact H | (rw [hy177]; exact H) | exact H
                                    have Ny177 := Aside0.mk hy177
                                    clear hy177
                                    have H' := Aside0.mk H
                                    clear H
                                    have hnb47 := NB168_171.out
                                    have hnc47 := NB171_168.out
                                    have hcz48_0 : wc.cell? ⟨gb168, 0, none⟩ = some (.slice (some ad170) l0_0.length c0_0) := (blk_cell BK168.out 0).trans rfl
                                    have hfz48_0 := blk_frozen BK168.out 0
                                    obtain ⟨Ao49, co49, eo49⟩ := Kd.R_slice HO_3.out
                                    subst eo49
                                    have p176 : 0 ≤ ((ji28) : Int) := of_decide_eq_true (by first | (with_reducible assumption) | assumption)
                                    have q176 : (ji28) < (x3_12.length : Int) := of_decide_eq_true (by first | (with_reducible assumption) | assumption)
                                    obtain ⟨ad176, e176, hx176_0⟩ := Kd.at_int (Kd.R_reads' HO_3.out).2.2 (ji28) p176 q176
                                    cases e176
                                    replace p176 := eq_true p176
                                    replace q176 := eq_true q176
                                    have hcz50_0 : wc.cell? ⟨gb171, 0, none⟩ = some (.int .u8 ((rd_T43 l0_0 x25_2).f0)) := (blk_cell BK171.out 0).trans rfl
                                    have hcz50_1 : wc.cell? ⟨gb171, 1, none⟩ = some (.int .i64 ((rd_T43 l0_0 x25_2).f1)) := (blk_cell BK171.out 1).trans rfl
                                    have hcz50_2 : wc.cell? ⟨gb171, 2, none⟩ = some (.int .i64 ((rd_T43 l0_0 x25_2).f2)) := (blk_cell BK171.out 2).trans rfl
                                    have hcz50_3 : wc.cell? ⟨gb171, 3, none⟩ = some (.int .i64 ((rd_T43 l0_0 x25_2).f3)) := (blk_cell BK171.out 3).trans rfl
                                    have hfz50_0 := blk_frozen BK171.out 0
                                    have hfz50_1 := blk_frozen BK171.out 1
                                    have hfz50_2 := blk_frozen BK171.out 2
                                    have hfz50_3 := blk_frozen BK171.out 3
                                    go_wp2_with (first | ((with_reducible refine gate_builtin (b := .append) (xs := #[.tmp 76, .tmp 81]) rfl ?_); (try (refine gate_guard (by rfl) ?_; dsimp only)); at_builtin; refine Kd.R_append (Kd.int .i64) (w0 := w) w.heap.size rfl (.tmp 76) (.tmp 81) 55 3 (.int .i64 0) 8 rfl Tryd.underlying55 info3 rfl (by decide) (by omega) (.slice (some ad176) x3_12.length co49) x3_12 (wrap64 (x25_2 + ((rd_T43 l0_0 x25_2).f3))) [.int .i64 (wrap64 (x25_2 + ((rd_T43 l0_0 x25_2).f3)))] (fun _ => True) (fun _ => False) rfl rfl ?aP (fun _ hk => hk.elim) ?aF ?aO ?aB ?aS ?aL ?_; (case aP => exact rfl); (case aB => exact (by repeat (first | (with_reducible first | exact HB.out | apply below_alloc | apply pw_below_drewN | apply below_drew1 | refine below_set ?_ GE168.out | refine below_set ?_ GE171.out) | exact HB.out))); (case aF => exact (fun _ _ => trivial)); (case aO => exact (by (with_reducible repeat (first | apply Kd.R_alloc | apply Kd.R_drewN | apply Kd.R_drew)); exact HO_3.out)); (case aS => exact (below_size (by repeat (first | (with_reducible first | exact HB.out | apply below_alloc | apply pw_below_drewN | apply below_drew1 | refine below_set ?_ GE168.out | refine below_set ?_ GE171.out) | exact HB.out)))); (case aL => have := LMc46.out; omega); intro v178 w51 ho hb hg hat; rw [← Ny177.out] at ho; have n0_ := Aside0.mk (blk_grown (g := gb168) (o := .cells #[.slice (some ad170) l0_0.length c0_0] 24 (0, 0)) (by (with_reducible repeat (first | refine blk_drewN ?_ _ | refine blk_drew ?_ | refine blk_alloc ?_ _)); exact BK168.out) hg (Kd.R_ne HO_3.out BK168.out (by decide))); have n1_ := Aside0.mk (blk_grown (g := gb171) (o := .cells #[.int .u8 ((rd_T43 l0_0 x25_2).f0), .int .i64 ((rd_T43 l0_0 x25_2).f1), .int .i64 ((rd_T43 l0_0 x25_2).f2), .int .i64 ((rd_T43 l0_0 x25_2).f3)] 43 (0, 0)) (by (with_reducible repeat (first | refine blk_drewN ?_ _ | refine blk_drew ?_ | refine blk_alloc ?_ _)); exact BK171.out) hg (Kd.R_ne HO_3.out BK171.out (by decide))); have n2_ := Aside0.mk (hb); have n3_ := Aside0.mk (ho); clear BK168; clear BK171; clear HB; clear HO_3; have BK168 := n0_; have BK171 := n1_; have HB := n2_; have HO179 := n3_; clear n0_ n1_ n2_ n3_; clear ho hb hg hat))
                                    repeat (go_quiet (first | ((with_reducible refine gate_builtin (b := .append) (xs := #[.tmp 76, .tmp 81]) rfl ?_); (try (refine gate_guard (by rfl) ?_; dsimp only)); at_builtin; refine Kd.R_append (Kd.int .i64) (w0 := w) w.heap.size rfl (.tmp 76) (.tmp 81) 55 3 (.int .i64 0) 8 rfl Tryd.underlying55 info3 rfl (by decide) (by omega) (.slice (some ad176) x3_12.length co49) x3_12 (wrap64 (x25_2 + ((rd_T43 l0_0 x25_2).f3))) [.int .i64 (wrap64 (x25_2 + ((rd_T43 l0_0 x25_2).f3)))] (fun _ => True) (fun _ => False) rfl rfl ?aP (fun _ hk => hk.elim) ?aF ?aO ?aB ?aS ?aL ?_; (case aP => exact rfl); (case aB => exact (by repeat (first | (with_reducible first | exact HB.out | apply below_alloc | apply pw_below_drewN | apply below_drew1 | refine below_set ?_ GE168.out | refine below_set ?_ GE171.out) | exact HB.out))); (case aF => exact (fun _ _ => trivial)); (case aO => exact (by (with_reducible repeat (first | apply Kd.R_alloc | apply Kd.R_drewN | apply Kd.R_drew)); exact HO_3.out)); (case aS => exact (below_size (by repeat (first | (with_reducible first | exact HB.out | apply below_alloc | apply pw_below_drewN | apply below_drew1 | refine below_set ?_ GE168.out | refine below_set ?_ GE171.out) | exact HB.out)))); (case aL => have := LMc46.out; omega); intro v178 w51 ho hb hg hat; rw [← Ny177.out] at ho; have n0_ := Aside0.mk (blk_grown (g := gb168) (o := .cells #[.slice (some ad170) l0_0.length c0_0] 24 (0, 0)) (by (with_reducible repeat (first | refine blk_drewN ?_ _ | refine blk_drew ?_ | refine blk_alloc ?_ _)); exact BK168.out) hg (Kd.R_ne HO_3.out BK168.out (by decide))); have n1_ := Aside0.mk (blk_grown (g := gb171) (o := .cells #[.int .u8 ((rd_T43 l0_0 x25_2).f0), .int .i64 ((rd_T43 l0_0 x25_2).f1), .int .i64 ((rd_T43 l0_0 x25_2).f2), .int .i64 ((rd_T43 l0_0 x25_2).f3)] 43 (0, 0)) (by (with_reducible repeat (first | refine blk_drewN ?_ _ | refine blk_drew ?_ | refine blk_alloc ?_ _)); exact BK171.out) hg (Kd.R_ne HO_3.out BK171.out (by decide))); have n2_ := Aside0.mk (hb); have n3_ := Aside0.mk (ho); clear BK168; clear BK171; clear HB; clear HO_3; have BK168 := n0_; have BK171 := n1_; have HB := n2_; have HO179 := n3_; clear n0_ n1_ n2_ n3_; clear ho hb hg hat)); try go_wp2_with (first | ((with_reducible refine gate_builtin (b := .append) (xs := #[.tmp 76, .tmp 81]) rfl ?_); (try (refine gate_guard (by rfl) ?_; dsimp only)); at_builtin; refine Kd.R_append (Kd.int .i64) (w0 := w) w.heap.size rfl (.tmp 76) (.tmp 81) 55 3 (.int .i64 0) 8 rfl Tryd.underlying55 info3 rfl (by decide) (by omega) (.slice (some ad176) x3_12.length co49) x3_12 (wrap64 (x25_2 + ((rd_T43 l0_0 x25_2).f3))) [.int .i64 (wrap64 (x25_2 + ((rd_T43 l0_0 x25_2).f3)))] (fun _ => True) (fun _ => False) rfl rfl ?aP (fun _ hk => hk.elim) ?aF ?aO ?aB ?aS ?aL ?_; (case aP => exact rfl); (case aB => exact (by repeat (first | (with_reducible first | exact HB.out | apply below_alloc | apply pw_below_drewN | apply below_drew1 | refine below_set ?_ GE168.out | refine below_set ?_ GE171.out) | exact HB.out))); (case aF => exact (fun _ _ => trivial)); (case aO => exact (by (with_reducible repeat (first | apply Kd.R_alloc | apply Kd.R_drewN | apply Kd.R_drew)); exact HO_3.out)); (case aS => exact (below_size (by repeat (first | (with_reducible first | exact HB.out | apply below_alloc | apply pw_below_drewN | apply below_drew1 | refine below_set ?_ GE168.out | refine below_set ?_ GE171.out) | exact HB.out)))); (case aL => have := LMc46.out; omega); intro v178 w51 ho hb hg hat; rw [← Ny177.out] at ho; have n0_ := Aside0.mk (blk_grown (g := gb168) (o := .cells #[.slice (some ad170) l0_0.length c0_0] 24 (0, 0)) (by (with_reducible repeat (first | refine blk_drewN ?_ _ | refine blk_drew ?_ | refine blk_alloc ?_ _)); exact BK168.out) hg (Kd.R_ne HO_3.out BK168.out (by decide))); have n1_ := Aside0.mk (blk_grown (g := gb171) (o := .cells #[.int .u8 ((rd_T43 l0_0 x25_2).f0), .int .i64 ((rd_T43 l0_0 x25_2).f1), .int .i64 ((rd_T43 l0_0 x25_2).f2), .int .i64 ((rd_T43 l0_0 x25_2).f3)] 43 (0, 0)) (by (with_reducible repeat (first | refine blk_drewN ?_ _ | refine blk_drew ?_ | refine blk_alloc ?_ _)); exact BK171.out) hg (Kd.R_ne HO_3.out BK171.out (by decide))); have n2_ := Aside0.mk (hb); have n3_ := Aside0.mk (ho); clear BK168; clear BK171; clear HB; clear HO_3; have BK168 := n0_; have BK171 := n1_; have HB := n2_; have HO179 := n3_; clear n0_ n1_ n2_ n3_; clear ho hb hg hat)))
                                    go_roundg kj12
                                    case measure => have := HJ1.out; have := HK2.out; have := HJ12.out; omega
                                    case rel => exact ⟨(y177), (wrap64 (x25_2 + 1)), (by first | rfl | (simp; done) | (simp [*]; done)), H', ⟨by have := HJ1.out; have := HK2.out; have := HJ12.out; omega⟩, ⟨by (with_reducible repeat (first | apply Kd.R_alloc | apply Kd.R_drewN | apply Kd.R_drew)); exact HO179.out⟩, ⟨by (with_reducible repeat (first | refine blk_drewN ?_ _ | refine blk_drew ?_ | refine blk_alloc ?_ _)); exact BK168.out⟩, ⟨by repeat (first | (with_reducible first | exact HB.out | apply below_alloc | apply pw_below_drewN | apply below_drew1 | refine below_set ?_ GE168.out | refine below_set ?_ GE171.out) | exact HB.out)⟩⟩
                                  · rw [if_neg c46] at H
                                    exact absurd H (by simp)
                          · rw [if_neg c30] at H
                            exact absurd H (by simp)
                        · rw [if_neg c29] at H
                          exact absurd H (by simp)
                      · rw [if_neg c27] at H
                        have c27b0 : decide (0 < (x3_12.length : Int)) = false := decide_eq_false c27
                        have c27b1 : decide (0 < x3_12.length) = false := decide_eq_false (by omega)
                        clear c27
                        by_cases c52 : ((rd_T43 l0_0 x25_2).f0) ≥ 58
                        · rw [if_pos c52] at H
                          have c52b0 : decide (58 ≤ ((rd_T43 l0_0 x25_2).f0)) = true := decide_eq_true c52
                          clear c52
                          obtain rfl := Option.some.inj H
                          have hnb53 := NB168_171.out
                          have hnc53 := NB171_168.out
                          have hcz54_0 : wc.cell? ⟨gb168, 0, none⟩ = some (.slice (some ad170) l0_0.length c0_0) := (blk_cell BK168.out 0).trans rfl
                          have hfz54_0 := blk_frozen BK168.out 0
                          obtain ⟨Ao55, co55, eo55⟩ := Kd.R_slice HO_3.out
                          subst eo55
                          have hcz56_0 : wc.cell? ⟨gb171, 0, none⟩ = some (.int .u8 ((rd_T43 l0_0 x25_2).f0)) := (blk_cell BK171.out 0).trans rfl
                          have hcz56_1 : wc.cell? ⟨gb171, 1, none⟩ = some (.int .i64 ((rd_T43 l0_0 x25_2).f1)) := (blk_cell BK171.out 1).trans rfl
                          have hcz56_2 : wc.cell? ⟨gb171, 2, none⟩ = some (.int .i64 ((rd_T43 l0_0 x25_2).f2)) := (blk_cell BK171.out 2).trans rfl
                          have hcz56_3 : wc.cell? ⟨gb171, 3, none⟩ = some (.int .i64 ((rd_T43 l0_0 x25_2).f3)) := (blk_cell BK171.out 3).trans rfl
                          have hfz56_0 := blk_frozen BK171.out 0
                          have hfz56_1 := blk_frozen BK171.out 1
                          have hfz56_2 := blk_frozen BK171.out 2
                          have hfz56_3 := blk_frozen BK171.out 3
                          go_wp2
                          repeat (go_quiet (fail); try go_wp2)
                          go_ret
                          exact ⟨by first | rfl | (simp [errW_none, errW_some] <;> rfl) | (simp [*, errW_none, errW_some] <;> rfl), by repeat (first | (with_reducible first | exact HB.out | apply below_alloc | apply pw_below_drewN | apply below_drew1 | refine below_set ?_ GE168.out | refine below_set ?_ GE171.out) | exact HB.out)⟩
                        · rw [if_neg c52] at H
                          have c52b0 : decide (58 ≤ ((rd_T43 l0_0 x25_2).f0)) = false := decide_eq_false c52
                          clear c52
                          by_cases c57 : ((rd_T43 l0_0 x25_2).f3) < 1
                          · rw [if_pos c57] at H
                            have c57b0 : decide (((rd_T43 l0_0 x25_2).f3) < 1) = true := decide_eq_true c57
                            clear c57
                            obtain rfl := Option.some.inj H
                            have hnb58 := NB168_171.out
                            have hnc58 := NB171_168.out
                            have hcz59_0 : wc.cell? ⟨gb168, 0, none⟩ = some (.slice (some ad170) l0_0.length c0_0) := (blk_cell BK168.out 0).trans rfl
                            have hfz59_0 := blk_frozen BK168.out 0
                            obtain ⟨Ao60, co60, eo60⟩ := Kd.R_slice HO_3.out
                            subst eo60
                            have hcz61_0 : wc.cell? ⟨gb171, 0, none⟩ = some (.int .u8 ((rd_T43 l0_0 x25_2).f0)) := (blk_cell BK171.out 0).trans rfl
                            have hcz61_1 : wc.cell? ⟨gb171, 1, none⟩ = some (.int .i64 ((rd_T43 l0_0 x25_2).f1)) := (blk_cell BK171.out 1).trans rfl
                            have hcz61_2 : wc.cell? ⟨gb171, 2, none⟩ = some (.int .i64 ((rd_T43 l0_0 x25_2).f2)) := (blk_cell BK171.out 2).trans rfl
                            have hcz61_3 : wc.cell? ⟨gb171, 3, none⟩ = some (.int .i64 ((rd_T43 l0_0 x25_2).f3)) := (blk_cell BK171.out 3).trans rfl
                            have hfz61_0 := blk_frozen BK171.out 0
                            have hfz61_1 := blk_frozen BK171.out 1
                            have hfz61_2 := blk_frozen BK171.out 2
                            have hfz61_3 := blk_frozen BK171.out 3
                            go_wp2
                            repeat (go_quiet (fail); try go_wp2)
                            go_ret
                            exact ⟨by first | rfl | (simp [errW_none, errW_some] <;> rfl) | (simp [*, errW_none, errW_some] <;> rfl), by repeat (first | (with_reducible first | exact HB.out | apply below_alloc | apply pw_below_drewN | apply below_drew1 | refine below_set ?_ GE168.out | refine below_set ?_ GE171.out) | exact HB.out)⟩
                          · rw [if_neg c57] at H
                            have c57b0 : decide (((rd_T43 l0_0 x25_2).f3) < 1) = false := decide_eq_false c57
                            clear c57
                            by_cases c62 : ((rd_T43 l0_0 x25_2).f3) > (wrap64 ((l0_0.length : Int) - x25_2))
                            · rw [if_pos c62] at H
                              have c62b0 : decide ((wrap64 ((l0_0.length : Int) - x25_2)) < ((rd_T43 l0_0 x25_2).f3)) = true := decide_eq_true c62
                              clear c62
                              obtain rfl := Option.some.inj H
                              have hnb63 := NB168_171.out
                              have hnc63 := NB171_168.out
                              have hcz64_0 : wc.cell? ⟨gb168, 0, none⟩ = some (.slice (some ad170) l0_0.length c0_0) := (blk_cell BK168.out 0).trans rfl
                              have hfz64_0 := blk_frozen BK168.out 0
                              obtain ⟨Ao65, co65, eo65⟩ := Kd.R_slice HO_3.out
                              subst eo65
                              have hcz66_0 : wc.cell? ⟨gb171, 0, none⟩ = some (.int .u8 ((rd_T43 l0_0 x25_2).f0)) := (blk_cell BK171.out 0).trans rfl
                              have hcz66_1 : wc.cell? ⟨gb171, 1, none⟩ = some (.int .i64 ((rd_T43 l0_0 x25_2).f1)) := (blk_cell BK171.out 1).trans rfl
                              have hcz66_2 : wc.cell? ⟨gb171, 2, none⟩ = some (.int .i64 ((rd_T43 l0_0 x25_2).f2)) := (blk_cell BK171.out 2).trans rfl
                              have hcz66_3 : wc.cell? ⟨gb171, 3, none⟩ = some (.int .i64 ((rd_T43 l0_0 x25_2).f3)) := (blk_cell BK171.out 3).trans rfl
                              have hfz66_0 := blk_frozen BK171.out 0
                              have hfz66_1 := blk_frozen BK171.out 1
                              have hfz66_2 := blk_frozen BK171.out 2
                              have hfz66_3 := blk_frozen BK171.out 3
                              go_wp2
                              repeat (go_quiet (fail); try go_wp2)
                              go_ret
                              exact ⟨by first | rfl | (simp [errW_none, errW_some] <;> rfl) | (simp [*, errW_none, errW_some] <;> rfl), by repeat (first | (with_reducible first | exact HB.out | apply below_alloc | apply pw_below_drewN | apply below_drew1 | refine below_set ?_ GE168.out | refine below_set ?_ GE171.out) | exact HB.out)⟩
                            · rw [if_neg c62] at H
                              have c62b0 : decide ((wrap64 ((l0_0.length : Int) - x25_2)) < ((rd_T43 l0_0 x25_2).f3)) = false := decide_eq_false c62
                              clear c62
                              by_cases c67 : x3_12.length < 17592186044416
                              · rw [if_pos c67] at H
                                have LMc67 := Aside0.mk c67
                                clear c67
                                obtain ⟨y180, hy180⟩ : ∃ y_ : List Int, y_ = (x3_12 ++ [wrap64 (x25_2 + ((rd_T43 l0_0 x25_2).f3))]) := ⟨_, rfl⟩
                                replace H : (tree_shaped.l0 kj12 y180 l0_0 (l0_0.length : Int) (wrap64 (x25_2 + 1)) l0_0) = some r := by first | (rw [hy180]; with_reducible exact H) | (have H2_ := (Option.bind_some _ _).symm.trans H; rw [hy180]; with_reducible exact H2_) | (have H2_ := (Option.bind_some _ _).symm.trans H; with_reducible exact H2_) | with_reducible exact H | (rw [hy180]; exact H) | exact H
                                have Ny180 := Aside0.mk hy180
                                clear hy180
                                have H' := Aside0.mk H
                                clear H
                                have hnb68 := NB168_171.out
                                have hnc68 := NB171_168.out
                                have hcz69_0 : wc.cell? ⟨gb168, 0, none⟩ = some (.slice (some ad170) l0_0.length c0_0) := (blk_cell BK168.out 0).trans rfl
                                have hfz69_0 := blk_frozen BK168.out 0
                                obtain ⟨Ao70, co70, eo70⟩ := Kd.R_slice HO_3.out
                                subst eo70
                                have hcz71_0 : wc.cell? ⟨gb171, 0, none⟩ = some (.int .u8 ((rd_T43 l0_0 x25_2).f0)) := (blk_cell BK171.out 0).trans rfl
                                have hcz71_1 : wc.cell? ⟨gb171, 1, none⟩ = some (.int .i64 ((rd_T43 l0_0 x25_2).f1)) := (blk_cell BK171.out 1).trans rfl
                                have hcz71_2 : wc.cell? ⟨gb171, 2, none⟩ = some (.int .i64 ((rd_T43 l0_0 x25_2).f2)) := (blk_cell BK171.out 2).trans rfl
                                have hcz71_3 : wc.cell? ⟨gb171, 3, none⟩ = some (.int .i64 ((rd_T43 l0_0 x25_2).f3)) := (blk_cell BK171.out 3).trans rfl
                                have hfz71_0 := blk_frozen BK171.out 0
                                have hfz71_1 := blk_frozen BK171.out 1
                                have hfz71_2 := blk_frozen BK171.out 2
                                have hfz71_3 := blk_frozen BK171.out 3
                                go_wp2_with (first | ((with_reducible refine gate_builtin (b := .append) (xs := #[.tmp 76, .tmp 81]) rfl ?_); (try (refine gate_guard (by rfl) ?_; dsimp only)); at_builtin; refine Kd.R_append (Kd.int .i64) (w0 := w) w.heap.size rfl (.tmp 76) (.tmp 81) 55 3 (.int .i64 0) 8 rfl Tryd.underlying55 info3 rfl (by decide) (by omega) (.slice Ao70 x3_12.length co70) x3_12 (wrap64 (x25_2 + ((rd_T43 l0_0 x25_2).f3))) [.int .i64 (wrap64 (x25_2 + ((rd_T43 l0_0 x25_2).f3)))] (fun _ => True) (fun _ => False) rfl rfl ?aP (fun _ hk => hk.elim) ?aF ?aO ?aB ?aS ?aL ?_; (case aP => exact rfl); (case aB => exact (by repeat (first | (with_reducible first | exact HB.out | apply below_alloc | apply pw_below_drewN | apply below_drew1 | refine below_set ?_ GE168.out | refine below_set ?_ GE171.out) | exact HB.out))); (case aF => exact (fun _ _ => trivial)); (case aO => exact (by (with_reducible repeat (first | apply Kd.R_alloc | apply Kd.R_drewN | apply Kd.R_drew)); exact HO_3.out)); (case aS => exact (below_size (by repeat (first | (with_reducible first | exact HB.out | apply below_alloc | apply pw_below_drewN | apply below_drew1 | refine below_set ?_ GE168.out | refine below_set ?_ GE171.out) | exact HB.out)))); (case aL => have := LMc67.out; omega); intro v181 w72 ho hb hg hat; rw [← Ny180.out] at ho; have n0_ := Aside0.mk (blk_grown (g := gb168) (o := .cells #[.slice (some ad170) l0_0.length c0_0] 24 (0, 0)) (by (with_reducible repeat (first | refine blk_drewN ?_ _ | refine blk_drew ?_ | refine blk_alloc ?_ _)); exact BK168.out) hg (Kd.R_ne HO_3.out BK168.out (by decide))); have n1_ := Aside0.mk (blk_grown (g := gb171) (o := .cells #[.int .u8 ((rd_T43 l0_0 x25_2).f0), .int .i64 ((rd_T43 l0_0 x25_2).f1), .int .i64 ((rd_T43 l0_0 x25_2).f2), .int .i64 ((rd_T43 l0_0 x25_2).f3)] 43 (0, 0)) (by (with_reducible repeat (first | refine blk_drewN ?_ _ | refine blk_drew ?_ | refine blk_alloc ?_ _)); exact BK171.out) hg (Kd.R_ne HO_3.out BK171.out (by decide))); have n2_ := Aside0.mk (hb); have n3_ := Aside0.mk (ho); clear BK168; clear BK171; clear HB; clear HO_3; have BK168 := n0_; have BK171 := n1_; have HB := n2_; have HO182 := n3_; clear n0_ n1_ n2_ n3_; clear ho hb hg hat))
                                repeat (go_quiet (first | ((with_reducible refine gate_builtin (b := .append) (xs := #[.tmp 76, .tmp 81]) rfl ?_); (try (refine gate_guard (by rfl) ?_; dsimp only)); at_builtin; refine Kd.R_append (Kd.int .i64) (w0 := w) w.heap.size rfl (.tmp 76) (.tmp 81) 55 3 (.int .i64 0) 8 rfl Tryd.underlying55 info3 rfl (by decide) (by omega) (.slice Ao70 x3_12.length co70) x3_12 (wrap64 (x25_2 + ((rd_T43 l0_0 x25_2).f3))) [.int .i64 (wrap64 (x25_2 + ((rd_T43 l0_0 x25_2).f3)))] (fun _ => True) (fun _ => False) rfl rfl ?aP (fun _ hk => hk.elim) ?aF ?aO ?aB ?aS ?aL ?_; (case aP => exact rfl); (case aB => exact (by repeat (first | (with_reducible first | exact HB.out | apply below_alloc | apply pw_below_drewN | apply below_drew1 | refine below_set ?_ GE168.out | refine below_set ?_ GE171.out) | exact HB.out))); (case aF => exact (fun _ _ => trivial)); (case aO => exact (by (with_reducible repeat (first | apply Kd.R_alloc | apply Kd.R_drewN | apply Kd.R_drew)); exact HO_3.out)); (case aS => exact (below_size (by repeat (first | (with_reducible first | exact HB.out | apply below_alloc | apply pw_below_drewN | apply below_drew1 | refine below_set ?_ GE168.out | refine below_set ?_ GE171.out) | exact HB.out)))); (case aL => have := LMc67.out; omega); intro v181 w72 ho hb hg hat; rw [← Ny180.out] at ho; have n0_ := Aside0.mk (blk_grown (g := gb168) (o := .cells #[.slice (some ad170) l0_0.length c0_0] 24 (0, 0)) (by (with_reducible repeat (first | refine blk_drewN ?_ _ | refine blk_drew ?_ | refine blk_alloc ?_ _)); exact BK168.out) hg (Kd.R_ne HO_3.out BK168.out (by decide))); have n1_ := Aside0.mk (blk_grown (g := gb171) (o := .cells #[.int .u8 ((rd_T43 l0_0 x25_2).f0), .int .i64 ((rd_T43 l0_0 x25_2).f1), .int .i64 ((rd_T43 l0_0 x25_2).f2), .int .i64 ((rd_T43 l0_0 x25_2).f3)] 43 (0, 0)) (by (with_reducible repeat (first | refine blk_drewN ?_ _ | refine blk_drew ?_ | refine blk_alloc ?_ _)); exact BK171.out) hg (Kd.R_ne HO_3.out BK171.out (by decide))); have n2_ := Aside0.mk (hb); have n3_ := Aside0.mk (ho); clear BK168; clear BK171; clear HB; clear HO_3; have BK168 := n0_; have BK171 := n1_; have HB := n2_; have HO182 := n3_; clear n0_ n1_ n2_ n3_; clear ho hb hg hat)); try go_wp2_with (first | ((with_reducible refine gate_builtin (b := .append) (xs := #[.tmp 76, .tmp 81]) rfl ?_); (try (refine gate_guard (by rfl) ?_; dsimp only)); at_builtin; refine Kd.R_append (Kd.int .i64) (w0 := w) w.heap.size rfl (.tmp 76) (.tmp 81) 55 3 (.int .i64 0) 8 rfl Tryd.underlying55 info3 rfl (by decide) (by omega) (.slice Ao70 x3_12.length co70) x3_12 (wrap64 (x25_2 + ((rd_T43 l0_0 x25_2).f3))) [.int .i64 (wrap64 (x25_2 + ((rd_T43 l0_0 x25_2).f3)))] (fun _ => True) (fun _ => False) rfl rfl ?aP (fun _ hk => hk.elim) ?aF ?aO ?aB ?aS ?aL ?_; (case aP => exact rfl); (case aB => exact (by repeat (first | (with_reducible first | exact HB.out | apply below_alloc | apply pw_below_drewN | apply below_drew1 | refine below_set ?_ GE168.out | refine below_set ?_ GE171.out) | exact HB.out))); (case aF => exact (fun _ _ => trivial)); (case aO => exact (by (with_reducible repeat (first | apply Kd.R_alloc | apply Kd.R_drewN | apply Kd.R_drew)); exact HO_3.out)); (case aS => exact (below_size (by repeat (first | (with_reducible first | exact HB.out | apply below_alloc | apply pw_below_drewN | apply below_drew1 | refine below_set ?_ GE168.out | refine below_set ?_ GE171.out) | exact HB.out)))); (case aL => have := LMc67.out; omega); intro v181 w72 ho hb hg hat; rw [← Ny180.out] at ho; have n0_ := Aside0.mk (blk_grown (g := gb168) (o := .cells #[.slice (some ad170) l0_0.length c0_0] 24 (0, 0)) (by (with_reducible repeat (first | refine blk_drewN ?_ _ | refine blk_drew ?_ | refine blk_alloc ?_ _)); exact BK168.out) hg (Kd.R_ne HO_3.out BK168.out (by decide))); have n1_ := Aside0.mk (blk_grown (g := gb171) (o := .cells #[.int .u8 ((rd_T43 l0_0 x25_2).f0), .int .i64 ((rd_T43 l0_0 x25_2).f1), .int .i64 ((rd_T43 l0_0 x25_2).f2), .int .i64 ((rd_T43 l0_0 x25_2).f3)] 43 (0, 0)) (by (with_reducible repeat (first | refine blk_drewN ?_ _ | refine blk_drew ?_ | refine blk_alloc ?_ _)); exact BK171.out) hg (Kd.R_ne HO_3.out BK171.out (by decide))); have n2_ := Aside0.mk (hb); have n3_ := Aside0.mk (ho); clear BK168; clear BK171; clear HB; clear HO_3; have BK168 := n0_; have BK171 := n1_; have HB := n2_; have HO182 := n3_; clear n0_ n1_ n2_ n3_; clear ho hb hg hat)))
                                go_roundg kj12
                                case measure => have := HJ1.out; have := HK2.out; have := HJ12.out; omega
                                case rel => exact ⟨(y180), (wrap64 (x25_2 + 1)), (by first | rfl | (simp; done) | (simp [*]; done)), H', ⟨by have := HJ1.out; have := HK2.out; have := HJ12.out; omega⟩, ⟨by (with_reducible repeat (first | apply Kd.R_alloc | apply Kd.R_drewN | apply Kd.R_drew)); exact HO182.out⟩, ⟨by (with_reducible repeat (first | refine blk_drewN ?_ _ | refine blk_drew ?_ | refine blk_alloc ?_ _)); exact BK168.out⟩, ⟨by repeat (first | (with_reducible first | exact HB.out | apply below_alloc | apply pw_below_drewN | apply below_drew1 | refine below_set ?_ GE168.out | refine below_set ?_ GE171.out) | exact HB.out)⟩⟩
                              · rw [if_neg c67] at H
                                exact absurd H (by simp)
                · rw [if_neg c12] at H
                  exact absurd H (by simp)
              · rw [if_neg c11] at H
                exact absurd H (by simp)
            · rw [if_neg c10] at H
              have c10b0 : decide (x25_2 < (l0_0.length : Int)) = false := decide_eq_false c10
              clear c10
              obtain rfl := Option.some.inj H
              go_wp2
              repeat (go_quiet (fail); try go_wp2)
              go_ret
              exact ⟨by first | rfl | (simp [errW_none, errW_some] <;> rfl) | (simp [*, errW_none, errW_some] <;> rfl), by repeat (first | (with_reducible first | exact HB.out | apply below_alloc | apply pw_below_drewN | apply below_drew1 | refine below_set ?_ GE168.out) | exact HB.out)⟩

end Go.Proofs.YtodldpdnhcafpaaDoor.F

namespace Go.Proofs.YtodldpdnhcafpaaDoor.Q
open Go.RowKit Go.Proofs.YtodldpdnhcafpaaDoorW.PrintWords Go.Proofs.YtodldpdnhcafpaaDoorW.PrintLast Go.Proofs.YtodldpdnhcafpaaDoorW.PrintMore
open Go.Proofs.YtodldpdnhcafpaaDoor.F
set_option linter.unusedSimpArgs false
set_option linter.unusedVariables false

/-- Are the kids from x on in order up to en? -/
def ck (l : List S43) (en : Int) : Nat → Int → Bool
  | 0, _ => true
  | d + 1, x => if x < en then (if (rd_T43 l x).f3 < 1 then false else if (rd_T43 l x).f3 > en - x then false else ck l en d (x + (rd_T43 l x).f3)) else true
theorem kgo_ck (l : List S43) (en : Int) : ∀ (d : Nat) (pre : List Int) (x : Int), (kgo l en d pre x).2 = ck l en d x
  | 0, _, _ => rfl
  | d + 1, pre, x => by
    simp only [kgo, ck]
    split
    · split
      · rfl
      · split
        · rfl
        · exact kgo_ck l en d _ _
    · rfl
theorem ck_fuel (l : List S43) (en : Int) : ∀ (d d' : Nat) (x : Int), en - x ≤ d → en - x ≤ d' → ck l en d x = ck l en d' x
  | 0, 0, _, _, _ => rfl
  | 0, d' + 1, x, h, _ => by simp only [ck]; rw [if_neg (by omega)]
  | d + 1, 0, x, _, h => by simp only [ck]; rw [if_neg (by omega)]
  | d + 1, d' + 1, x, h, h' => by
    simp only [ck]
    split
    · split
      · rfl
      · split
        · rfl
        · exact ck_fuel l en d d' _ (by omega) (by omega)
    · rfl
def C (l : List S43) (x en : Int) : Bool := ck l en l.length x
theorem C_self (l : List S43) (x : Int) : C l x x = true := by
  unfold C
  cases l.length with
  | zero => rfl
  | succ d => simp only [ck]; rw [if_neg (by omega)]
theorem C_step (l : List S43) (x en : Int) (h0 : 0 ≤ x) (h : x < en) (he : en ≤ l.length) : C l x en = (decide (1 ≤ (rd_T43 l x).f3) && (decide ((rd_T43 l x).f3 ≤ en - x) && C l (x + (rd_T43 l x).f3) en)) := by
  unfold C
  rw [ck_fuel l en l.length (l.length + 1) x (by omega) (by omega)]
  simp only [ck]
  rw [if_pos h]
  by_cases c1 : (rd_T43 l x).f3 < 1
  · rw [if_pos c1, decide_eq_false (by omega)]; rfl
  · rw [if_neg c1, decide_eq_true (show 1 ≤ (rd_T43 l x).f3 by omega)]
    by_cases c2 : (rd_T43 l x).f3 > en - x
    · rw [if_pos c2, decide_eq_false (by omega)]; rfl
    · rw [if_neg c2, decide_eq_true (show (rd_T43 l x).f3 ≤ en - x by omega)]; rfl
theorem kspec_C (l : List S43) (n : Int) : (kspec l n).2 = (sizedB l n && C l (n + 1) (n + (rd_T43 l n).f3)) := by
  unfold kspec C
  split
  · rename_i h; rw [kgo_ck, h]; rfl
  · rename_i h; rw [show sizedB l n = false by simpa using h]; rfl
def good (l : List S43) (n : Int) : Bool := (kspec l n).2 && decide ((rd_T43 l n).f0 < 58)
def allG (l : List S43) : Nat → Int → Bool
  | 0, _ => true
  | f + 1, n => good l n && allG l f (n + 1)
def rem (l : List S43) : Int → List Int → Bool
  | _, [] => true
  | n, e :: s => C l n e && rem l e s
/-- The nodes from n on, the ends of those around from the innermost on. -/
def pops (n : Int) : List Int → List Int
  | [] => []
  | e :: s => if e = n then pops n s else e :: s
def endOf (l : List S43) : List Int → Int
  | [] => l.length
  | e :: _ => e
def run (l : List S43) : Nat → Int → List Int → Bool
  | 0, _, _ => true
  | f + 1, n, s => if (rd_T43 l n).f0 ≥ 58 then false else if (rd_T43 l n).f3 < 1 then false else if (rd_T43 l n).f3 > endOf l (pops n s) - n then false else run l f (n + 1) ((n + (rd_T43 l n).f3) :: pops n s)

/-- What the ends of the nodes around are like. -/
def Ends (l : List S43) (n : Int) (s : List Int) : Prop := ∀ e ∈ s, n ≤ e ∧ e ≤ (l.length : Int)
theorem pops_mem {n e : Int} : ∀ {s : List Int}, e ∈ pops n s → e ∈ s
  | [], h => by simp [pops] at h
  | a :: s, h => by
    simp only [pops] at h
    split at h
    · exact List.mem_cons_of_mem _ (pops_mem h)
    · exact h
theorem rem_pops (l : List S43) (n : Int) : ∀ s : List Int, rem l n s = rem l n (pops n s)
  | [] => rfl
  | e :: s => by
    simp only [pops]
    split
    · rename_i h
      subst h
      simp only [rem]
      rw [C_self, Bool.true_and]
      exact rem_pops l e s
    · rfl
theorem pops_head {n e : Int} {s t : List Int} (h : pops n s = e :: t) : e ≠ n := by
  induction s with
  | nil => simp [pops] at h
  | cons a s ih =>
    simp only [pops] at h
    split at h
    · exact ih h
    · rename_i hne
      obtain ⟨rfl, _⟩ := List.cons.inj h
      exact hne
theorem rem_full (l : List S43) : ∀ s : List Int, Ends l l.length s → rem l l.length s = true
  | [], _ => rfl
  | e :: s, h => by
    have h1 := h e List.mem_cons_self
    have : e = (l.length : Int) := by omega
    subst this
    simp only [rem]
    rw [C_self, Bool.true_and]
    exact rem_full l s (fun x hx => h x (List.mem_cons_of_mem _ hx))
theorem pops_last (n : Int) (z : Int) (hz : z ≠ n) : ∀ s : List Int, s.getLast? = some z → (pops n s).getLast? = some z
  | [], h => by simp at h
  | e :: s, h => by
    simp only [pops]
    split
    · rename_i he
      cases s with
      | nil => simp at h; omega
      | cons a s =>
        rw [List.getLast?_cons_cons] at h
        exact pops_last n z hz (a :: s) h
    · exact h
theorem pops_suffix (n : Int) : ∀ s : List Int, pops n s <:+ s
  | [] => List.suffix_refl _
  | e :: s => by
    simp only [pops]
    split
    · exact (pops_suffix n s).trans (List.suffix_cons _ _)
    · exact List.suffix_refl _
theorem run_rem (l : List S43) : ∀ (f : Nat) (n : Int) (s : List Int), (l.length : Int) - n = f → 0 ≤ n → Ends l n s → s.Pairwise (· ≤ ·) → s.getLast? = some (l.length : Int) → run l f n s = (rem l n s && allG l f n)
  | 0, n, s, hf, h0, hs, ho, hz => by
    have : n = (l.length : Int) := by omega
    subst this
    rw [rem_full l s hs]
    rfl
  | f + 1, n, s, hf, h0, hs, ho, hz => by
    have hlt : n < (l.length : Int) := by omega
    have hz2 := pops_last n (l.length : Int) (by omega) s hz
    rw [rem_pops]
    simp only [run, allG]
    cases hp : pops n s with
    | nil => rw [hp] at hz2; simp at hz2
    | cons e t =>
      have hne := pops_head hp
      have he : e ∈ s := pops_mem (by rw [hp]; exact List.mem_cons_self)
      have hes := hs e he
      have hen : n < e := by omega
      have hop : (e :: t).Pairwise (· ≤ ·) := by rw [← hp]; exact ho.sublist (pops_suffix n s).sublist
      have hE : endOf l (e :: t) = e := rfl
      simp only [rem]
      rw [hE, C_step l n e h0 hen hes.2]
      unfold good
      rw [kspec_C]
      unfold sizedB
      rw [decide_eq_true h0, decide_eq_true hlt]
      by_cases c0 : (rd_T43 l n).f0 ≥ 58
      · rw [if_pos c0, decide_eq_false (show ¬ (rd_T43 l n).f0 < 58 by omega)]; simp
      · rw [if_neg c0, decide_eq_true (show (rd_T43 l n).f0 < 58 by omega)]
        by_cases c1 : (rd_T43 l n).f3 < 1
        · rw [if_pos c1, decide_eq_false (show ¬ 1 ≤ (rd_T43 l n).f3 by omega)]; simp
        · rw [if_neg c1, decide_eq_true (show 1 ≤ (rd_T43 l n).f3 by omega)]
          by_cases c2 : (rd_T43 l n).f3 > e - n
          · rw [if_pos c2, decide_eq_false (show ¬ (rd_T43 l n).f3 ≤ e - n by omega)]; simp
          · rw [if_neg c2, decide_eq_true (show (rd_T43 l n).f3 ≤ e - n by omega), decide_eq_true (show (rd_T43 l n).f3 ≤ (l.length : Int) - n by omega)]
            rw [run_rem l f (n + 1) ((n + (rd_T43 l n).f3) :: e :: t) (by omega) (by omega) ?_ ?_ ?_]
            · simp only [rem, Bool.true_and, Bool.and_true]
              generalize C l (n + 1) (n + (rd_T43 l n).f3) = x1
              generalize C l (n + (rd_T43 l n).f3) e = x2
              generalize rem l e t = x3
              generalize allG l f (n + 1) = x4
              cases x1 <;> cases x2 <;> cases x3 <;> cases x4 <;> rfl
            · intro x hx
              rcases List.mem_cons.1 hx with rfl | hx
              · omega
              · have hx2 : x ∈ pops n s := by rw [hp]; exact hx
                have h3 := hs x (pops_mem hx2)
                rcases List.mem_cons.1 hx with rfl | hx
                · omega
                · have := (List.pairwise_cons.1 hop).1 x hx
                  omega
            · refine List.pairwise_cons.2 ⟨fun x hx => ?_, hop⟩
              rcases List.mem_cons.1 hx with rfl | hx
              · omega
              · have := (List.pairwise_cons.1 hop).1 x hx
                omega
            · rw [List.getLast?_cons_cons, ← hp]; exact hz2

def shapedB (l : List S43) : Bool := decide (0 < l.length) && (decide ((rd_T43 l 0).f3 = (l.length : Int)) && allG l l.length 0)
theorem run_all (l : List S43) (h : 0 < l.length) (hz : (rd_T43 l 0).f3 = (l.length : Int)) : run l l.length 0 [] = allG l l.length 0 := by
  obtain ⟨f, hf⟩ : ∃ f, l.length = f + 1 := ⟨l.length - 1, by omega⟩
  have h1 : run l f 1 [(l.length : Int)] = (rem l 1 [(l.length : Int)] && allG l f 1) := by
    refine run_rem l f 1 _ (by omega) (by omega) ?_ (by simp) (by simp)
    intro e he
    simp at he
    omega
  rw [hf]
  simp only [run, allG]
  have hP : pops 0 [] = [] := rfl
  have hE : endOf l [] = (l.length : Int) := rfl
  rw [hP, hE, hz, Int.zero_add, Int.zero_add, h1]
  unfold good
  rw [kspec_C]
  unfold sizedB
  rw [hz, Int.zero_add, Int.zero_add, decide_eq_true (show (0 : Int) ≤ 0 by omega), decide_eq_true (show (0 : Int) < (l.length : Int) by omega), decide_eq_true (show (1 : Int) ≤ (l.length : Int) by omega), decide_eq_true (show (l.length : Int) ≤ (l.length : Int) - 0 by omega)]
  rw [if_neg (show ¬ (l.length : Int) < 1 by omega), if_neg (show ¬ (l.length : Int) > (l.length : Int) - 0 by omega)]
  simp only [rem]
  by_cases c : (rd_T43 l 0).f0 ≥ 58
  · rw [if_pos c, decide_eq_false (show ¬ (rd_T43 l 0).f0 < 58 by omega)]; simp
  · rw [if_neg c, decide_eq_true (show (rd_T43 l 0).f0 < 58 by omega)]; simp

theorem last_rev (e : Int) (s : List Int) : rd ((e :: s).reverse) (wrap64 (((e :: s).reverse.length : Int) - 1)) = e ∨ ¬ (e :: s).length ≤ 9223372036854775807 := by
  by_cases h : (e :: s).length ≤ 9223372036854775807
  · left
    rw [List.length_reverse, kw64 (by omega) (by simp only [List.length_cons] at h ⊢; omega)]
    unfold rd
    rw [show (((e :: s).length : Int) - 1).toNat = s.length by simp only [List.length_cons]; omega, List.reverse_cons]
    simp [List.getD_eq_getElem?_getD]
  · exact .inr h
/-- tree.shaped's two inner parts. -/
theorem shaped_loop (l : List S43) (hl : l.length ≤ 4398046511104) : ∀ (f : Nat) (n : Int) (s : List Int), (l.length : Int) - n = f → 0 ≤ n → (∀ e ∈ s, 0 ≤ e ∧ e ≤ (l.length : Int)) → (s.length : Int) ≤ n →
    Ev (fun k => tree_shaped.l0 k s.reverse l (l.length : Int) n l) (run l f n s)
  | 0, n, s, hf, h0, hs, hb => by
    refine ⟨1, fun m hm => ?_⟩
    obtain ⟨k, rfl⟩ : ∃ j, m = j + 1 := ⟨m - 1, by omega⟩
    simp only [tree_shaped.l0, run]
    rw [if_neg (by omega)]
  | f + 1, n, s, hf, h0, hs, hb => by
    have hlt : n < (l.length : Int) := by omega
    have hw1 : wrap64 (n + 1) = n + 1 := kw64 (by omega) (by omega)
    refine Ev.step (f := fun k => tree_shaped.l1 k s.reverse n l (l.length : Int) n l (rd_T43 l n).f0 (rd_T43 l n).f1 (rd_T43 l n).f2 (rd_T43 l n).f3) (fun k => by
      simp only [tree_shaped.l0]
      rw [if_pos hlt, if_pos h0, if_pos hlt]) ?_
    have tail : ∀ s : List Int, (∀ e ∈ s, 0 ≤ e ∧ e ≤ (l.length : Int)) → (s.length : Int) ≤ n →
        Ev (fun k => tree_shaped.j3 k s.reverse n l (l.length : Int) n l (rd_T43 l n).f0 (rd_T43 l n).f1 (rd_T43 l n).f2 (rd_T43 l n).f3)
          (if (rd_T43 l n).f0 ≥ 58 then false else if (rd_T43 l n).f3 < 1 then false else if (rd_T43 l n).f3 > endOf l s - n then false else run l f (n + 1) ((n + (rd_T43 l n).f3) :: s)) := by
      intro s hs hb
      have hend : 0 ≤ endOf l s ∧ endOf l s ≤ (l.length : Int) := by
        cases s with
        | nil => simp only [endOf]; omega
        | cons e s => exact hs e List.mem_cons_self
      have hwe : wrap64 (endOf l s - n) = endOf l s - n := kw64 (by omega) (by omega)
      have hlim : s.reverse.length < 17592186044416 := by rw [List.length_reverse]; omega
      have key : ∀ k, tree_shaped.j3 (k + 1) s.reverse n l (l.length : Int) n l (rd_T43 l n).f0 (rd_T43 l n).f1 (rd_T43 l n).f2 (rd_T43 l n).f3 =
          if (rd_T43 l n).f0 ≥ 58 then some false else if (rd_T43 l n).f3 < 1 then some false else if (rd_T43 l n).f3 > endOf l s - n then some false else tree_shaped.l0 k (s.reverse ++ [wrap64 (n + (rd_T43 l n).f3)]) l (l.length : Int) (n + 1) l := by
        intro k
        simp only [tree_shaped.j3, hw1]
        cases s with
        | nil =>
          have hE : endOf l [] = (l.length : Int) := rfl
          rw [hE] at hwe ⊢
          rw [if_neg (by simp), hwe, if_pos hlim]
        | cons e s =>
          have hE : endOf l (e :: s) = e := rfl
          rw [hE] at hwe ⊢
          have hr := (last_rev e s).resolve_right (fun h => h (by omega))
          have hlen : ((e :: s).reverse.length : Int) = (s.length : Int) + 1 := by rw [List.length_reverse, List.length_cons]; omega
          simp only [List.length_cons] at hb
          rw [hr, hwe, if_pos hlim, hlen, kw64 (by omega) (by omega), if_pos (by omega), if_pos (by omega), if_pos (by omega)]
      by_cases c0 : (rd_T43 l n).f0 ≥ 58
      · rw [if_pos c0]; exact ⟨1, fun m hm => by obtain ⟨k, rfl⟩ : ∃ j, m = j + 1 := ⟨m - 1, by omega⟩; simp only; rw [key, if_pos c0]⟩
      · rw [if_neg c0]
        by_cases c1 : (rd_T43 l n).f3 < 1
        · rw [if_pos c1]; exact ⟨1, fun m hm => by obtain ⟨k, rfl⟩ : ∃ j, m = j + 1 := ⟨m - 1, by omega⟩; simp only; rw [key, if_neg c0, if_pos c1]⟩
        · rw [if_neg c1]
          by_cases c2 : (rd_T43 l n).f3 > endOf l s - n
          · rw [if_pos c2]; exact ⟨1, fun m hm => by obtain ⟨k, rfl⟩ : ∃ j, m = j + 1 := ⟨m - 1, by omega⟩; simp only; rw [key, if_neg c0, if_neg c1, if_pos c2]⟩
          · rw [if_neg c2]
            have ih := shaped_loop l hl f (n + 1) ((n + (rd_T43 l n).f3) :: s) (by omega) (by omega) (fun e he => by
              rcases List.mem_cons.1 he with rfl | he
              · omega
              · exact hs e he) (by rw [List.length_cons]; omega)
            refine Ev.step (fun k => ?_) ih
            rw [key, if_neg c0, if_neg c1, if_neg c2, List.reverse_cons, kw64 (by omega) (by omega)]
    have pop : ∀ s : List Int, (∀ e ∈ s, 0 ≤ e ∧ e ≤ (l.length : Int)) → (s.length : Int) ≤ n →
        Ev (fun k => tree_shaped.l1 k s.reverse n l (l.length : Int) n l (rd_T43 l n).f0 (rd_T43 l n).f1 (rd_T43 l n).f2 (rd_T43 l n).f3)
          (if (rd_T43 l n).f0 ≥ 58 then false else if (rd_T43 l n).f3 < 1 then false else if (rd_T43 l n).f3 > endOf l (pops n s) - n then false else run l f (n + 1) ((n + (rd_T43 l n).f3) :: pops n s)) := by
      intro s
      induction s with
      | nil =>
        intro hs hb
        have := tail [] hs hb
        have hP : pops n [] = [] := rfl
        rw [hP]
        refine Ev.step (fun k => ?_) this
        simp only [tree_shaped.l1]
        rw [if_neg (by simp)]
      | cons e s ih =>
        intro hs hb
        have hr := (last_rev e s).resolve_right (fun h => h (by omega))
        have hlen : ((e :: s).reverse.length : Int) = (s.length : Int) + 1 := by rw [List.length_reverse, List.length_cons]; omega
        simp only [List.length_cons] at hb
        have hw : wrap64 ((s.length : Int) + 1 - 1) = (s.length : Int) := by rw [kw64] <;> omega
        by_cases c : e = n
        · have hP : pops n (e :: s) = pops n s := by simp only [pops]; rw [if_pos c]
          rw [hP]
          have i1 := ih (fun x hx => hs x (List.mem_cons_of_mem _ hx)) (by omega)
          refine Ev.step (fun k => ?_) i1
          simp only [tree_shaped.l1]
          rw [hr, if_pos (by omega), hlen, hw, if_pos (by omega), if_pos (by omega), if_pos c, if_pos (by omega), Int.toNat_natCast, List.reverse_cons, List.take_append_of_le_length (by simp), List.take_of_length_le (by simp)]
        · have hP : pops n (e :: s) = e :: s := by simp only [pops]; rw [if_neg c]
          rw [hP]
          have := tail (e :: s) hs (by rw [List.length_cons]; omega)
          refine Ev.step (fun k => ?_) this
          simp only [tree_shaped.l1]
          rw [hr, if_pos (by omega), hlen, hw, if_pos (by omega), if_pos (by omega), if_neg c]
    simp only [run]
    exact pop s hs hb
theorem shaped_is (l : List S43) (hl : l.length ≤ 4398046511104) : Ev (fun k => tree_shaped.f k l) (shapedB l) := by
  unfold tree_shaped.f shapedB
  have hbad : Ev (fun k => tree_shaped.j0 k true l) false := ⟨1, fun m hm => by
    obtain ⟨k, rfl⟩ : ∃ j, m = j + 1 := ⟨m - 1, by omega⟩
    simp only [tree_shaped.j0]; rfl⟩
  by_cases h : (l.length : Int) = 0
  · simp only [if_pos h, decide_eq_false (show ¬ 0 < l.length by omega), Bool.false_and]; exact hbad
  · simp only [if_neg h, if_pos (show 0 < (l.length : Int) by omega), decide_eq_true (show 0 < l.length by omega), Bool.true_and]
    by_cases hz : (rd_T43 l 0).f3 = (l.length : Int)
    · rw [decide_eq_true hz, Bool.true_and, ← run_all l (by omega) hz]
      have hne : ((rd_T43 l 0).f3 != (l.length : Int)) = false := bne_eq_false_iff_eq.mpr hz
      simp only [hne]
      have := shaped_loop l hl l.length 0 [] (by omega) (by omega) (by simp) (by simp)
      refine Ev.step (fun k => ?_) this
      simp only [tree_shaped.j0]
      rw [if_neg (by simp)]
      rfl
    · rw [decide_eq_false hz, Bool.false_and]
      have hne : ((rd_T43 l 0).f3 != (l.length : Int)) = true := bne_iff_ne.mpr hz
      simp only [hne]
      exact hbad
end Go.Proofs.YtodldpdnhcafpaaDoor.Q

/-
  DERIVED: THE SHELF's CONTRACTS AT THIS DUMP, IN PLAIN WORDS (tools/lay-plain.mjs out of 'TrydShelf.lean', which tools/lay-shelf.mjs wrote): THE SAME DECLARATIONS UNDER THE SAME NAMES: 'import', 'namespace', 'open', 'def', 'theorem' AND NOTHING ELSE: no command of the shelf's: FOR A HAND-IN. Each laying: the table of numbers ('.._ren') and one theorem, a field a fact of the dump's own or the kernel's comparison; each contract: ONE APPLICATION.
-/
namespace Go.Proofs
open Go.Shelf
def Tryd.lays169_ren : Go.Shelf.Ren := ⟨fun | 169 => 41 | n => n, fun | 70 => 78 | 9 => 9 | 0 => 0 | 72 => 81 | 37 => 79 | 127 => 101 | 3 => 3 | 5 => 5 | n => n, fun | n => n⟩
theorem Tryd.lays169 : Go.Proofs.Lays.n169 Tryd.prog Tryd.lays169_ren := {
  mixed := by kernel_rfl
  f169 := Tryd.func41.trans (congrArg some (by kernel_rfl))
  t0 := Tryd.underlying0
  a0 := Tryd.isAgg0
  z0 := Tryd.sizeOf0
  v0 := Tryd.zeroValue0
  t3 := Tryd.underlying3
  a3 := Tryd.isAgg3
  z3 := Tryd.sizeOf3
  v3 := Tryd.zeroValue3
  t9 := Tryd.underlying9
  a9 := Tryd.isAgg9
  z9 := Tryd.sizeOf9
  v9 := Tryd.zeroValue9
  t37 := Tryd.underlying79
  a37 := Tryd.isAgg79
  z37 := Tryd.sizeOf79
  v37 := Tryd.zeroValue79
  t70 := Tryd.underlying78
  a70 := Tryd.isAgg78
  z70 := Tryd.sizeOf78
  v70 := Tryd.zeroValue78
  t72 := Tryd.underlying81
  a72 := Tryd.isAgg81
  z72 := Tryd.sizeOf81
  v72 := Tryd.zeroValue81
  t127 := Tryd.underlying101
  a127 := Tryd.isAgg101
  z127 := Tryd.sizeOf101
  v127 := Tryd.zeroValue101 }
theorem Tryd.Builder_Extra_169 : Builder.Extra Tryd.prog Tryd.lays169_ren := {
  sizeBuilder := by kernel_rfl
  liesBuilder := by kernel_rfl
  t5 := Tryd.underlying5
  a5 := Tryd.isAgg5
  z5 := Tryd.sizeOf5
  v5 := Tryd.zeroValue5
  infoByte := by kernel_rfl
  cellsByte := by kernel_rfl
  sizeByte := by kernel_rfl
  neB5 := by decide }
open Go.RowKit in
/-- (*strings.Builder).String: "String returns the accumulated string.": WHATEVER THE BUILDER HOLDS; THE FORM '_k': OVER 'Lib.IsBuilderF' (a builder that 'String()' may have read), AND WITH THE FRAME THAT REACHES ABOVE THE BUILDER: 'Lib.OthersKept': every block that is not b and is no row of uint8's stands as it stood: the iterator of a range among them. (LAID: no walk: one application.) -/
theorem Tryd.Builder_String_any_k (B b : Nat) (l : List UInt8) (w : World) (h : Lib.IsBuilderF 81 5 B b (Lib.byteCells l) w) (hBw : B ≤ w.heap.size) :
    Calls Tryd.prog 41 #[.pointer (some ⟨b, 0, none⟩)] w fun e w' => e = .returned (.string ⟨l.toArray⟩) ∧ (Lib.IsBuilderF 81 5 B b (Lib.byteCells l) w' ∧ Below B w w' ∧ Lib.OthersKept 5 (some b) w w') := Any.Builder_String_any_k Tryd.lays169 Tryd.Builder_Extra_169 B b l w h hBw
end Go.Proofs

-- strings.Builder (58, 39, 40): copyCheck, WriteByte, WriteString at this dump; String (41) stands in Shelf
namespace Go.Proofs.YtodldpdnhcafpaaDoor.K
open Go.RowKit Go.Shelf
set_option linter.unusedVariables false
set_option linter.unusedSimpArgs false
theorem szB : (Tryd.prog.info? 81).map (·.size) = some 2 := by kernel_rfl
theorem liesB : liesAt Tryd.prog Tryd.prog.depth 81 (2 / Tryd.prog.cellsOf 81) 0 81 1 = true := by kernel_rfl
theorem infoByte5 : (Tryd.prog.info? 5).map (fun i => (i.zero, i.size, i.bytes)) = some (some (.int .u8 0), 1, 1) := by kernel_rfl
set_option maxHeartbeats 1000000 in
set_option maxRecDepth 100000 in
theorem copyCheck_used (b : Nat) (w : World) (h0 : w.cell? ⟨b, 0, none⟩ = some (.pointer (some ⟨b, 0, none⟩))) :
    Calls Tryd.prog 58 #[.pointer (some ⟨b, 0, none⟩)] w fun e w' => e = .returned (.tuple #[]) ∧ w' = w := by
  obtain ⟨j, hj, _⟩ := Option.map_eq_some_iff.1 szB
  go_enter Tryd.func58, Tryd.ntmps58
  go_wp2
  rw [Lib.run_neq_ptr_same w _ Tryd.underlying78 hj]
  go_wp2
  go_end0
  exact ⟨rfl, rfl⟩
set_option maxHeartbeats 1000000 in
set_option maxRecDepth 100000 in
theorem copyCheck_fresh (b : Nat) (w : World) (h0 : w.cell? ⟨b, 0, none⟩ = some (.pointer none)) (hsh : w.shape? b = some (81, 2)) (hfz : w.frozen? ⟨b, 0, none⟩ = false) :
    Calls Tryd.prog 58 #[.pointer (some ⟨b, 0, none⟩)] w fun e w' => e = .returned (.tuple #[]) ∧ w' = w.setCell ⟨b, 0, none⟩ (.pointer (some ⟨b, 0, none⟩)) := by
  obtain ⟨j, hj, hjs⟩ := Option.map_eq_some_iff.1 szB
  go_enter Tryd.func58, Tryd.ntmps58
  go_wp2
  rw [Lib.run_to_unsafe w ⟨b, 0, none⟩ Tryd.underlying78 Tryd.underlying116 hj (by rw [hjs]; decide) hsh (Nat.zero_lt_succ 1)]
  simp only [Result.andThen]
  rw [Oper.upon_value]
  go_wp2
  rw [run_callFunc_extern Tryd.func67 (by kernel_rfl) (by kernel_rfl) (by kernel_rfl) (e := Extern.AbiNoEscape.same) (by kernel_rfl)]
  rw [Lib.run_noEscape]
  simp only [Result.andThen]
  rw [Oper.upon_value]
  go_wp2
  rw [Lib.run_from_unsafe w ⟨b, 0, none⟩ Tryd.underlying116 Tryd.underlying78 hj hsh liesB]
  simp only [Result.andThen]
  rw [Oper.upon_value]
  go_wp2
  go_end0
  exact ⟨rfl, rfl⟩
theorem copyCheck_k (B b : Nat) (bs : List Value) (w : World) (h : Lib.IsBuilderF 81 5 B b bs w) :
    Calls Tryd.prog 58 #[.pointer (some ⟨b, 0, none⟩)] w fun e w' => e = .returned (.tuple #[]) ∧ (Lib.BuilderAtF 81 5 B b (.pointer (some ⟨b, 0, none⟩)) bs w' ∧ Below B w w' ∧ Lib.OthersKept 5 (some b) w w') := by
  rcases h with h | h
  · refine (copyCheck_fresh b w h.cell0 h.shape h.frozen0).mono ?_
    rintro e w' ⟨rfl, rfl⟩
    exact ⟨rfl, h.used _, (Below.refl B w).setCell (p := ⟨b, 0, none⟩) h.1 _, (Lib.OthersKept.refl _ _ w).setCell ⟨b, 0, none⟩ rfl _⟩
  · refine (copyCheck_used b w h.cell0).mono ?_
    rintro e w' ⟨rfl, rfl⟩
    exact ⟨rfl, h, Below.refl B _, Lib.OthersKept.refl _ _ _⟩
set_option maxHeartbeats 2000000 in
set_option maxRecDepth 100000 in
theorem WriteByte_k (B b : Nat) (bs : List Value) (c : Int) (w : World) (h : Lib.IsBuilderF 81 5 B b bs w) (hlen : bs.length + 1 ≤ 140737488355328) (hBw : B ≤ w.heap.size) :
    Calls Tryd.prog 39 #[.pointer (some ⟨b, 0, none⟩), .int .u8 c] w fun e w' => e = .returned .nilIface ∧ (Lib.BuilderAtF 81 5 B b (.pointer (some ⟨b, 0, none⟩)) (bs ++ [.int .u8 c]) w' ∧ Below B w w' ∧ Lib.OthersKept 5 (some b) w w') := by
  obtain ⟨i0, hi, hz0, hz1, hz2⟩ := info_parts infoByte5
  have e58 : ∀ args w, (callFunc 58 args).run Tryd.prog w = .ok (.enter 58 args) w := enters_of Tryd.func58 (by kernel_rfl) rfl
  go_enter Tryd.func39, Tryd.ntmps39
  go_wp2_with (go_at_fn 58; refine (copyCheck_k B b bs _ h).mono ?_)
  rintro e w1 ⟨rfl, h1, hb1, hk1⟩
  obtain ⟨hB, v, hbk, hown, hne⟩ := h1
  have c0 : w1.cell? ⟨b, 0, none⟩ = some (.pointer (some ⟨b, 0, none⟩)) := by rw [Lib.cell_of_heap hbk]; rfl
  have c1 : w1.cell? ⟨b, 1, none⟩ = some v := by rw [Lib.cell_of_heap hbk]; rfl
  go_wp2_with (at_builtin; refine wpList_append_ownF _ rfl _ _ 79 rfl B 5 i0 (.int .u8 0) 1 1 Tryd.underlying79 hi hz0 hz1 hz2 rfl (by decide) _ _ _ rfl (hown.alloc _) ⟨w1.heap.size, 0, none⟩ 1 1 [.int .u8 c] rfl rfl ?c1 ?c2 ?c3 ?c4 ?c5 ?_)
  case c1 =>
    intro j u hj
    match j, hj with
    | 0, hj => simp at hj; subst hj; simp [Addr.add]
  case c2 => intro u hu; simp at hu; subst hu; rfl
  case c3 => unfold maxLen; omega
  case c4 => omega
  case c5 => have := hb1.size; simp; omega
  intro v' w2 hown' hgrow _
  have hlt : b < w1.heap.size := by
    rcases Nat.lt_or_ge b w1.heap.size with h' | h'
    · exact h'
    · simp [Array.getElem?_eq_none h'] at hbk
  have hb2 : w2.heap[b]? = some (.cells #[.pointer (some ⟨b, 0, none⟩), v] 81 (0, 0)) := by
    rw [hgrow.block b (by simp; omega) (fun e => hne e.symm), Lib.alloc_old w1 _ b hlt]
    exact hbk
  have d0 : w2.cell? ⟨b, 0, none⟩ = some (.pointer (some ⟨b, 0, none⟩)) := by rw [Lib.cell_of_heap hb2]; rfl
  have d1 : w2.cell? ⟨b, 1, none⟩ = some v := by rw [Lib.cell_of_heap hb2]; rfl
  have f1 : w2.frozen? ⟨b, 1, none⟩ = false := Lib.frozen_of_heap hb2 1
  obtain ⟨g, cap, rfl⟩ : ∃ g cap, v' = .slice (some ⟨g, 0, none⟩) (bs.length + 1) cap := by
    rcases hown'.2 with ⟨_, h0⟩ | ⟨g, cap, cur, fz, hv, _⟩
    · omega
    · exact ⟨g, cap, hv⟩
  go_wp2
  go_ret
  refine ⟨rfl, ?_, ?_, ((hk1.alloc _).grown hgrow (Lib.ownsRowF_kind (hown.alloc _))).setCell ⟨b, 1, none⟩ rfl _⟩
  · exact Lib.BuilderAtF.put (T := 81) (e := 5) hB hb2 (bs' := bs ++ [.int .u8 c]) (by simpa using hown') (by decide)
  · exact ((hb1.alloc (by have := hb1.size; omega) _).grown hgrow (by have := hb1.size; simp; omega) (fun k hk => (hown.lt k hk).1)).setCell (p := ⟨b, 1, none⟩) hB _
set_option maxHeartbeats 2000000 in
set_option maxRecDepth 100000 in
theorem WriteString_k (B b : Nat) (bs : List Value) (s : ByteArray) (w : World) (h : Lib.IsBuilderF 81 5 B b bs w) (hlen : bs.length + s.size ≤ 140737488355328) (hBw : B ≤ w.heap.size) :
    Calls Tryd.prog 40 #[.pointer (some ⟨b, 0, none⟩), .string s] w fun e w' => e = .returned (.tuple #[.int .i64 s.size, .nilIface]) ∧ (Lib.BuilderAtF 81 5 B b (.pointer (some ⟨b, 0, none⟩)) (bs ++ Lib.strCells s) w' ∧ Below B w w' ∧ Lib.OthersKept 5 (some b) w w') := by
  obtain ⟨i0, hi, hz0, hz1, hz2⟩ := info_parts infoByte5
  have e58 : ∀ args w, (callFunc 58 args).run Tryd.prog w = .ok (.enter 58 args) w := enters_of Tryd.func58 (by kernel_rfl) rfl
  go_enter Tryd.func40, Tryd.ntmps40
  go_wp2_with (go_at_fn 58; refine (copyCheck_k B b bs _ h).mono ?_)
  rintro e w1 ⟨rfl, h1, hb1, hk1⟩
  obtain ⟨hB, v, hbk, hown, hne⟩ := h1
  have c0 : w1.cell? ⟨b, 0, none⟩ = some (.pointer (some ⟨b, 0, none⟩)) := by rw [Lib.cell_of_heap hbk]; rfl
  have c1 : w1.cell? ⟨b, 1, none⟩ = some v := by rw [Lib.cell_of_heap hbk]; rfl
  go_wp2_with (at_builtin; refine Lib.wpList_append_own_stringF _ rfl _ _ 79 9 rfl B 5 i0 Tryd.underlying79 Tryd.underlying9 hi hz0 hz1 hz2 _ _ _ rfl hown s rfl ?c3 ?c4 ?c5 ?_)
  case c3 => unfold maxLen; omega
  case c4 => omega
  case c5 => have := hb1.size; omega
  intro v' w2 hown' hgrow _
  have hlt : b < w1.heap.size := by
    rcases Nat.lt_or_ge b w1.heap.size with h' | h'
    · exact h'
    · simp [Array.getElem?_eq_none h'] at hbk
  have hb2 : w2.heap[b]? = some (.cells #[.pointer (some ⟨b, 0, none⟩), v] 81 (0, 0)) := by
    rw [hgrow.block b hlt (fun e => hne e.symm)]
    exact hbk
  have d0 : w2.cell? ⟨b, 0, none⟩ = some (.pointer (some ⟨b, 0, none⟩)) := by rw [Lib.cell_of_heap hb2]; rfl
  have d1 : w2.cell? ⟨b, 1, none⟩ = some v := by rw [Lib.cell_of_heap hb2]; rfl
  have f1 : w2.frozen? ⟨b, 1, none⟩ = false := Lib.frozen_of_heap hb2 1
  obtain ⟨ao, n', cap, rfl⟩ : ∃ ao n' cap, v' = .slice ao n' cap := by
    rcases hown'.2 with ⟨hv, _⟩ | ⟨g, cap, cur, fz, hv, _⟩
    · exact ⟨_, _, _, hv⟩
    · exact ⟨_, _, _, hv⟩
  go_wp2
  go_ret2
  refine ⟨rfl, ?_, ?_, (hk1.grown hgrow (Lib.ownsRowF_kind hown)).setCell ⟨b, 1, none⟩ rfl _⟩
  · exact Lib.BuilderAtF.put (T := 81) (e := 5) hB hb2 (bs' := bs ++ Lib.strCells s) (by simpa [Lib.strCells_length] using hown') (by decide)
  · exact (hb1.grown hgrow (by have := hb1.size; omega) (fun k hk => (hown.lt k hk).1)).setCell (p := ⟨b, 1, none⟩) hB _
end Go.Proofs.YtodldpdnhcafpaaDoor.K

-- A builder beside a row of ints: what keeps both
namespace Go.Proofs.YtodldpdnhcafpaaDoor.K
open Go.RowKit Go.Proofs.YtodldpdnhcafpaaDoorW.PrintWords Go.Proofs.YtodldpdnhcafpaaDoorW.PrintLast Go.Proofs.YtodldpdnhcafpaaDoorW.PrintMore
open Go.Proofs.YtodldpdnhcafpaaDoor.F
set_option linter.unusedVariables false
set_option linter.unusedSimpArgs false
/-- The builder's block and all rows of bytes stand. -/
def BKeep (b : Nat) (W W' : World) : Prop := ∀ k o, W.heap[k]? = some o → (k = b ∨ ∃ c fz, o = .cells c 5 fz) → W'.heap[k]? = some o
theorem BKeep.at_ {B b : Nat} {p : Value} {bs : List Value} {W W' : World} (hk : BKeep b W W') (h : Lib.BuilderAtF 81 5 B b p bs W) : Lib.BuilderAtF 81 5 B b p bs W' := by
  obtain ⟨hB, v, hb, hown, hne⟩ := h
  refine ⟨hB, v, hk b _ hb (.inl rfl), ⟨hown.1, ?_⟩, hne⟩
  rcases hown.2 with h | ⟨g, cap, cur, fz, h1, h2, h3, h4⟩
  · exact .inl h
  · exact .inr ⟨g, cap, cur, fz, h1, h2, hk g _ h3 (.inr ⟨cur, fz, rfl⟩), h4⟩
theorem BKeep.bld {B b : Nat} {bs : List Value} {W W' : World} (hk : BKeep b W W') (h : Lib.IsBuilderF 81 5 B b bs W) : Lib.IsBuilderF 81 5 B b bs W' := h.elim (fun x => .inl (hk.at_ x)) (fun x => .inr (hk.at_ x))
theorem BKeep.drewN (b : Nat) (W : World) (n : Nat) : BKeep b W (W.drewN n) := fun k o h _ => h
theorem BKeep.alloc (b : Nat) (W : World) (o : Obj) : BKeep b W (W.alloc o) := fun k x h _ => blk_alloc h o
theorem BKeep.below {b : Nat} {W W' : World} (h : Below W.heap.size W W') : BKeep b W W' := fun k x hk _ => (h.block k (blk_lt hk)).trans hk
theorem BKeep.setCell {b g : Nat} {W : World} {cs : Array Value} {T : TypeId} (hg : W.heap[g]? = some (.cells cs T (0, 0))) (hT : T ≠ 5) (hb : b ≠ g) (j : Nat) (u : Value) : BKeep b W (W.setCell ⟨g, j, none⟩ u) := fun k o h hk => by
  refine (Below.heap_setCell _ _ _ _ (fun e => ?_)).trans h
  rcases hk with rfl | ⟨c, fz, rfl⟩
  · exact hb e
  · simp only at e
    subst e
    rw [hg] at h
    simp only [Option.some.injEq, Obj.cells.injEq] at h
    exact hT h.2.1
/-- An append to a row of another type. -/
theorem BKeep.grown {b base : Nat} {e : TypeId} {d : Kd Int} {ok : Nat → Prop} {v : Value} {xs : List Int} {W W' : World} (hg : W.grownBy W' v.ownBlock) (hr : d.R e W base ok v xs) (he : e ≠ 5) (hb : ∀ g, v.ownBlock = some g → g ≠ b) : BKeep b W W' := fun k o h hk => by
  rw [hg.block k (blk_lt h) (fun e2 => ?_)]
  · exact h
  · obtain ⟨cells, hc⟩ := Kd.R_typed hr k e2.symm
    rcases hk with rfl | ⟨c, fz, rfl⟩
    · exact hb k e2.symm rfl
    · rw [hc] at h
      simp only [Option.some.injEq, Obj.cells.injEq] at h
      exact he h.2.1
/-- Behind a write to the builder: other blocks stand. -/
theorem oth_blk {b g : Nat} {W W' : World} {cs : Array Value} {T : TypeId} (ho : Lib.OthersKept 5 (some b) W W') (hg : W.heap[g]? = some (.cells cs T (0, 0))) (hT : T ≠ 5) (hb : g ≠ b) : W'.heap[g]? = some (.cells cs T (0, 0)) :=
  ho g _ hg (fun e => hb (Option.some.inj e)) (fun c fz e => by simp only [Obj.cells.injEq] at e; exact hT e.2.1)
theorem oth_row {b base : Nat} {W W' : World} {ok : Nat → Prop} {v : Value} {xs : List Int} (ho : Lib.OthersKept 5 (some b) W W') (hr : (Kd.int .i64).R 3 W base ok v xs) (hb : ∀ g, v.ownBlock = some g → g ≠ b) : (Kd.int .i64).R 3 W' base ok v xs := by
  have hown := Kd.own_of_R hr
  refine Kd.R_of_own ⟨hown.1, ?_⟩ hr.1
  rcases hown.2 with h | ⟨g, cap, cur, h1, h2, h3, h4⟩
  · exact .inl h
  · exact .inr ⟨g, cap, cur, h1, h2, oth_blk ho h3 (by decide) (hb g (by rw [h1]; rfl)), h4⟩
theorem bld_blk {B b : Nat} {bs : List Value} {W : World} (h : Lib.IsBuilderF 81 5 B b bs W) : ∃ p v, W.heap[b]? = some (.cells #[p, v] 81 (0, 0)) := by
  rcases h with ⟨_, v, hb, _⟩ | ⟨_, v, hb, _⟩
  · exact ⟨_, v, hb⟩
  · exact ⟨_, v, hb⟩
theorem ne_bld {B b g : Nat} {bs : List Value} {W : World} {cs : Array Value} {T : TypeId} (h : Lib.IsBuilderF 81 5 B b bs W) (hg : W.heap[g]? = some (.cells cs T (0, 0))) (hT : T ≠ 81) : g ≠ b := by
  rintro rfl
  obtain ⟨p, v, hb⟩ := bld_blk h
  rw [hg] at hb
  simp only [Option.some.injEq, Obj.cells.injEq] at hb
  exact hT hb.2.1
theorem row_bld {B b base : Nat} {bs : List Value} {W : World} {ok : Nat → Prop} {v : Value} {xs : List Int} (h : Lib.IsBuilderF 81 5 B b bs W) (hr : (Kd.int .i64).R 3 W base ok v xs) : ∀ g, v.ownBlock = some g → g ≠ b := fun g hg => by
  obtain ⟨cells, hc⟩ := Kd.R_typed hr g hg
  exact ne_bld h hc (by decide)
end Go.Proofs.YtodldpdnhcafpaaDoor.K

-- tree.Sketch (11): what it writes, and its walk
namespace Go.Proofs.YtodldpdnhcafpaaDoor.F
open Go.RowKit Go.Proofs.YtodldpdnhcafpaaDoorW.PrintWords Go.Proofs.YtodldpdnhcafpaaDoorW.PrintLast Go.Proofs.YtodldpdnhcafpaaDoorW.PrintMore
open Go.Proofs.YtodldpdnhcafpaaDoor.K
attribute [local go_sem] max2_int min2_int max_two min_two max_three min_three max_four min_four
set_option linter.unusedVariables false
set_option linter.unusedSimpArgs false
abbrev nmL (i : Int) : ByteArray := rdOf ByteArray.empty tabG0 i
/-- The brackets that are still open at the end. -/
def tree_Sketch.l2 : Nat → List UInt8 → List Int → Int → Option (List UInt8)
  | 0, _, _, _ => none
  | k + 1, out, o, j => if j < (o.length : Int) then (if out.length < 140737488355328 then tree_Sketch.l2 k (out ++ [41]) o (wrap64 (j + 1)) else none) else some out
mutual
def tree_Sketch.l0 : Nat → List S43 → List UInt8 → List Int → Int → Option (List UInt8)
  | 0, _, _, _, _ => none
  | k + 1, ns, out, o, i => if i < (ns.length : Int) then (if 0 ≤ i then tree_Sketch.l1 k ns out o i else none) else tree_Sketch.l2 k out o 0
def tree_Sketch.l1 : Nat → List S43 → List UInt8 → List Int → Int → Option (List UInt8)
  | 0, _, _, _, _ => none
  | k + 1, ns, out, o, i =>
    if (o.length : Int) > 0 then (if 0 ≤ wrap64 ((o.length : Int) - 1) then (if wrap64 ((o.length : Int) - 1) < (o.length : Int) then (if rd o (wrap64 ((o.length : Int) - 1)) = i then (if out.length < 140737488355328 then tree_Sketch.l1 k ns (out ++ [41]) (o.take (wrap64 ((o.length : Int) - 1)).toNat) i else none) else tree_Sketch.j2 k ns out o i) else none) else none)
    else tree_Sketch.j2 k ns out o i
def tree_Sketch.j2 : Nat → List S43 → List UInt8 → List Int → Int → Option (List UInt8)
  | 0, _, _, _, _ => none
  | k + 1, ns, out, o, i =>
    if out.length < 140737488355300 ∧ o.length < 17592186044415 ∧ 0 ≤ (rd_T43 ns i).f0 ∧ (rd_T43 ns i).f0 < 58 then
      (if 0 < i then (if 0 ≤ wrap64 (i - 1) then (if wrap64 (i - 1) < (ns.length : Int) then (if (rd_T43 ns (wrap64 (i - 1))).f3 = 1 then tree_Sketch.j3 k ns (out ++ [32]) o i else tree_Sketch.j3 k ns out o i) else none) else none) else tree_Sketch.j3 k ns out o i)
    else none
def tree_Sketch.j3 : Nat → List S43 → List UInt8 → List Int → Int → Option (List UInt8)
  | 0, _, _, _, _ => none
  | k + 1, ns, out, o, i =>
    if (rd_T43 ns i).f3 > 1 then tree_Sketch.l0 k ns (out ++ (nmL (rd_T43 ns i).f0).data.toList ++ [40]) (o ++ [wrap64 (i + (rd_T43 ns i).f3)]) (wrap64 (i + 1))
    else tree_Sketch.l0 k ns (out ++ (nmL (rd_T43 ns i).f0).data.toList) o (wrap64 (i + 1))
end
def tree_Sketch.f (k : Nat) (ns : List S43) : Option ByteArray :=
  (tree_shaped.f k ns).bind fun s => if s = true then (tree_Sketch.l0 k ns [] [] 0).bind fun l => some ⟨l.toArray⟩ else some ⟨#[]⟩
theorem tab_size_all : (tabG0.all fun s => decide (s.size ≤ 20)) = true := by decide +kernel
theorem tab_size {i : Int} (h0 : 0 ≤ i) (h1 : i < 58) : (nmL i).size ≤ 20 := by
  have hl : i.toNat < tabG0.length := by rw [tab_len]; omega
  have e : nmL i = tabG0[i.toNat] := by simp [nmL, rdOf, List.getD_eq_getElem?_getD, hl]
  rw [e]
  exact of_decide_eq_true (List.all_eq_true.1 tab_size_all _ (List.getElem_mem hl))
/-- What holds all along. -/
structure SkI (ns : List S43) (A : Option Addr) (c : Nat) (w W : World) (gt gb : Nat) (v4 : Value) (out : List UInt8) (o : List Int) : Prop where
  box : W.heap[gt]? = some (.cells #[.slice A ns.length c] 24 (0, 0))
  bld : Lib.IsBuilderF 81 5 w.heap.size gb (Lib.byteCells out) W
  opn : (Kd.int .i64).R 3 W w.heap.size (fun _ => True) v4 o
  bel : Below w.heap.size w W
theorem SkI.wrote {ns : List S43} {A : Option Addr} {c gt gb : Nat} {w W W' : World} {v4 : Value} {out out' : List UInt8} {o : List Int} {cs : List Value} (h : SkI ns A c w W gt gb v4 out o) (hb : Lib.BuilderAtF 81 5 w.heap.size gb (.pointer (some ⟨gb, 0, none⟩)) cs W')
    (hbel : Below w.heap.size W W') (ho : Lib.OthersKept 5 (some gb) W W') (hcs : cs = Lib.byteCells out') : SkI ns A c w W' gt gb v4 out' o :=
  ⟨oth_blk ho h.box (by decide) (ne_bld h.bld h.box (by decide)), by subst hcs; exact .inr hb, oth_row ho h.opn (row_bld h.bld h.opn), h.bel.trans hbel⟩
theorem SkI.drewN {ns : List S43} {A : Option Addr} {c gt gb : Nat} {w W : World} {v4 : Value} {out : List UInt8} {o : List Int} (h : SkI ns A c w W gt gb v4 out o) (n : Nat) : SkI ns A c w (W.drewN n) gt gb v4 out o :=
  ⟨blk_drewN h.box n, (BKeep.drewN gb W n).bld h.bld, Kd.R_drewN h.opn n, pw_below_drewN h.bel n⟩
theorem SkI.below {ns : List S43} {A : Option Addr} {c gt gb : Nat} {w W W' : World} {v4 : Value} {out : List UInt8} {o : List Int} (h : SkI ns A c w W gt gb v4 out o) (hb : Below W.heap.size W W') : SkI ns A c w W' gt gb v4 out o :=
  ⟨blk_below h.box hb, (BKeep.below hb).bld h.bld, Kd.R_below h.opn hb, below_step h.bel hb⟩
theorem SkI.set {ns : List S43} {A : Option Addr} {c gt gb g : Nat} {w W : World} {v4 : Value} {out : List UInt8} {o : List Int} {cs : Array Value} (h : SkI ns A c w W gt gb v4 out o) (hg : W.heap[g]? = some (.cells cs 43 (0, 0))) (hge : w.heap.size ≤ g) (j : Nat) (u : Value) : SkI ns A c w (W.setCell ⟨g, j, none⟩ u) gt gb v4 out o :=
  ⟨blk_far (p := ⟨g, j, none⟩) h.box (fun e => by have e2 : gt = g := e; subst e2; have := h.box; rw [hg] at this; simp at this) u, (BKeep.setCell hg (by decide) (fun e => ne_bld h.bld hg (by decide) e.symm) j u).bld h.bld,
    Kd.R_mono (Kd.R_far (p := ⟨g, j, none⟩) (Kd.R_types h.opn hg (by decide)) (fun _ hk => hk.2) u) (fun _ _ => trivial), below_set h.bel hge⟩
/-- A node laid into the round's variable. -/
theorem SkI.set4 {ns : List S43} {A : Option Addr} {c gt gb g : Nat} {w W : World} {v4 : Value} {out : List UInt8} {o : List Int} {a b d e : Value} (h : SkI ns A c w W gt gb v4 out o) (hg : W.heap[g]? = some (.cells #[a, b, d, e] 43 (0, 0))) (hge : w.heap.size ≤ g) (u0 u1 u2 u3 : Value) :
    SkI ns A c w ((((W.setCell ⟨g, 0, none⟩ u0).setCell ⟨g, 1, none⟩ u1).setCell ⟨g, 2, none⟩ u2).setCell ⟨g, 3, none⟩ u3) gt gb v4 out o ∧ ((((W.setCell ⟨g, 0, none⟩ u0).setCell ⟨g, 1, none⟩ u1).setCell ⟨g, 2, none⟩ u2).setCell ⟨g, 3, none⟩ u3).heap[g]? = some (.cells #[u0, u1, u2, u3] 43 (0, 0)) := by
  have h0 := blk_put (cs' := #[u0, b, d, e]) hg 0 u0 rfl
  have h1 := blk_put (cs' := #[u0, u1, d, e]) h0 1 u1 rfl
  have h2 := blk_put (cs' := #[u0, u1, u2, e]) h1 2 u2 rfl
  have h3 := blk_put (cs' := #[u0, u1, u2, u3]) h2 3 u3 rfl
  exact ⟨(((h.set hg hge 0 u0).set h0 hge 1 u1).set h1 hge 2 u2).set h2 hge 3 u3, h3⟩
theorem cells_snoc (out : List UInt8) (x : UInt8) : Lib.byteCells out ++ [.int .u8 (x.toNat : Int)] = Lib.byteCells (out ++ [x]) := by simp [Lib.byteCells]
theorem cells_str (out : List UInt8) (s : ByteArray) : Lib.byteCells out ++ Lib.strCells s = Lib.byteCells (out ++ s.data.toList) := by simp [Lib.byteCells, Lib.strCells]
end Go.Proofs.YtodldpdnhcafpaaDoor.F

-- TreeSketches, plainly: both writers of a sketch write the same
namespace Go.Proofs.YtodldpdnhcafpaaDoor.Q
open Go.RowKit Go.Proofs.YtodldpdnhcafpaaDoorW.PrintWords Go.Proofs.YtodldpdnhcafpaaDoorW.PrintLast Go.Proofs.YtodldpdnhcafpaaDoorW.PrintMore
open Go.Proofs.YtodldpdnhcafpaaDoor.F
set_option linter.unusedSimpArgs false
set_option linter.unusedVariables false
/-- A node's name. -/
def nmB (x : S43) : List UInt8 := (nmL x.f0).data.toList
def gapB (l : List S43) (n : Int) : List UInt8 := if 0 < n ∧ (rd_T43 l (n - 1)).f3 = 1 then [32] else []
/-- How many brackets close ahead of a node. -/
def cl (n : Int) (t : List Int) : List UInt8 := List.replicate (t.length - (pops n t).length) 41
/-- The text from a node on, the ends of the open ones from the innermost on. -/
def skf (l : List S43) : Nat → Int → List Int → List UInt8
  | 0, n, t => List.replicate t.length 41
  | f + 1, n, t => cl n t ++ gapB l n ++ nmB (rd_T43 l n) ++ (if (rd_T43 l n).f3 > 1 then 40 :: skf l f (n + 1) ((n + (rd_T43 l n).f3) :: pops n t) else skf l f (n + 1) (pops n t))
theorem pops_len (n : Int) : ∀ t : List Int, (pops n t).length ≤ t.length
  | [] => Nat.le_refl _
  | e :: t => by
    simp only [pops]
    split
    · have := pops_len n t; simp only [List.length_cons]; omega
    · exact Nat.le_refl _
theorem cl_cons_same (n : Int) (t : List Int) : cl n (n :: t) = 41 :: cl n t := by
  have h : pops n (n :: t) = pops n t := by simp only [pops]; rw [if_pos trivial]
  unfold cl
  rw [h, List.length_cons, show t.length + 1 - (pops n t).length = (t.length - (pops n t).length) + 1 by have := pops_len n t; omega]
  rfl
theorem cl_no {n e : Int} {t : List Int} (h : e ≠ n) : cl n (e :: t) = [] ∧ pops n (e :: t) = e :: t := by
  have h2 : pops n (e :: t) = e :: t := by simp only [pops]; rw [if_neg h]
  unfold cl
  rw [h2]
  simp
structure SInv (l : List S43) (n : Int) (t : List Int) : Prop where
  rg : ∀ e ∈ t, n ≤ e ∧ e ≤ (l.length : Int)
  srt : t.Pairwise (· ≤ ·)
  root : 0 < n → n < (l.length : Int) → (l.length : Int) ∈ t
theorem pops_pw (n : Int) : ∀ {t : List Int}, t.Pairwise (· ≤ ·) → (pops n t).Pairwise (· ≤ ·)
  | [], h => h
  | e :: t, h => by
    simp only [pops]
    split
    · exact pops_pw n (List.pairwise_cons.1 h).2
    · exact h
theorem pops_gt {n : Int} : ∀ {t : List Int}, (∀ e ∈ t, n ≤ e) → t.Pairwise (· ≤ ·) → ∀ e ∈ pops n t, n < e
  | [], _, _, e, h => by cases h
  | a :: t, hr, hp, e, h => by
    simp only [pops] at h
    split at h
    · exact pops_gt (fun x hx => hr x (List.mem_cons_of_mem _ hx)) (List.pairwise_cons.1 hp).2 e h
    · rename_i c
      have ha := hr a List.mem_cons_self
      rcases List.mem_cons.1 h with rfl | h
      · omega
      · have := (List.pairwise_cons.1 hp).1 e h; omega
theorem pops_keep {n e : Int} (hne : e ≠ n) : ∀ {t : List Int}, e ∈ t → e ∈ pops n t
  | a :: t, h => by
    simp only [pops]
    split
    · rename_i c
      rcases List.mem_cons.1 h with rfl | h
      · exact absurd c hne
      · exact pops_keep hne h
    · exact h
theorem endOf_le {l : List S43} {n : Int} {t : List Int} (h : ∀ e ∈ t, e ≤ (l.length : Int)) : endOf l t ≤ (l.length : Int) := by
  cases t with
  | nil => exact Int.le_refl _
  | cons e t => exact h e List.mem_cons_self
/-- The next node. -/
theorem SInv.next {l : List S43} {n : Int} {t : List Int} (h : SInv l n t) (h0 : 0 ≤ n) (hn : n < (l.length : Int)) (hf1 : 1 ≤ (rd_T43 l n).f3) (hf2 : (rd_T43 l n).f3 ≤ endOf l (pops n t) - n) (hz : (rd_T43 l 0).f3 = (l.length : Int)) :
    SInv l (n + 1) (if (rd_T43 l n).f3 > 1 then (n + (rd_T43 l n).f3) :: pops n t else pops n t) := by
  have hg := pops_gt (fun e he => (h.rg e he).1) h.srt
  have hm : ∀ e ∈ pops n t, e ≤ (l.length : Int) := fun e he => (h.rg e (pops_mem he)).2
  have hE := endOf_le (n := n) hm
  have hp := pops_pw n h.srt
  have hroot : 0 < n → (l.length : Int) ∈ pops n t := fun h1 => pops_keep (by omega) (h.root h1 hn)
  by_cases c : (rd_T43 l n).f3 > 1
  · rw [if_pos c]
    refine ⟨fun e he => ?_, List.pairwise_cons.2 ⟨fun e he => ?_, hp⟩, fun _ h2 => ?_⟩
    · rcases List.mem_cons.1 he with rfl | he
      · omega
      · have := hg e he; have := hm e he; omega
    · cases ht : pops n t with
      | nil => rw [ht] at he; cases he
      | cons a u =>
        rw [ht] at he hf2 hp
        have ha : endOf l (a :: u) = a := rfl
        rw [ha] at hf2
        rcases List.mem_cons.1 he with rfl | he
        · omega
        · have := (List.pairwise_cons.1 hp).1 e he; omega
    · by_cases c0 : n = 0
      · subst c0; rw [hz]; simp
      · exact List.mem_cons_of_mem _ (hroot (by omega))
  · rw [if_neg c]
    refine ⟨fun e he => ?_, hp, fun _ h2 => ?_⟩
    · have := hg e he; have := hm e he; omega
    · by_cases c0 : n = 0
      · subst c0; omega
      · exact hroot (by omega)
/-- What the checked walk says of a node. -/
theorem run_out {l : List S43} {f : Nat} {n : Int} {s : List Int} (h : run l (f + 1) n s = true) : (rd_T43 l n).f0 < 58 ∧ 1 ≤ (rd_T43 l n).f3 ∧ (rd_T43 l n).f3 ≤ endOf l (pops n s) - n ∧ run l f (n + 1) ((n + (rd_T43 l n).f3) :: pops n s) = true := by
  simp only [run] at h
  split at h
  · cases h
  · split at h
    · cases h
    · split at h
      · cases h
      · exact ⟨by omega, by omega, by omega, h⟩
theorem pops_next {l : List S43} {n e : Int} {u : List Int} (h1 : 1 ≤ e) : pops (n + 1) ((n + e) :: u) = pops (n + 1) (if e > 1 then (n + e) :: u else u) := by
  by_cases c : e > 1
  · rw [if_pos c]
  · rw [if_neg c]
    simp only [pops]
    rw [if_pos (by omega)]
theorem w64' {x : Int} (h0 : -9223372036854775808 ≤ x) (h1 : x ≤ 9223372036854775807) : wrap64 x = x := by unfold wrap64; omega
theorem rev_last (e : Int) (t : List Int) (h : t.length < 4398046511104) : wrap64 ((((e :: t).reverse.length : Nat) : Int) - 1) = (t.length : Int) ∧ rd ((e :: t).reverse) (t.length : Int) = e ∧ ((e :: t).reverse).take t.length = t.reverse := by
  refine ⟨?_, ?_, ?_⟩
  · rw [List.length_reverse, List.length_cons, w64' (by omega) (by omega)]; omega
  · have h0 : t.length < ((e :: t).reverse).length := by rw [List.length_reverse, List.length_cons]; omega
    simp [rd, List.getD_eq_getElem?_getD, List.reverse_cons, List.getElem?_append_right]
  · rw [List.reverse_cons]
    rw [List.take_append_of_le_length (by rw [List.length_reverse]; exact Nat.le_refl _), ← List.length_reverse, List.take_length]
theorem pop_loop (l : List S43) (n : Int) (r : List UInt8) : ∀ (t : List Int) (out : List UInt8), t.length < 4398046511104 → out.length + t.length < 140737488355328 →
    Ev (fun k => tree_Sketch.j2 k l (out ++ cl n t) (pops n t).reverse n) r → Ev (fun k => tree_Sketch.l1 k l out t.reverse n) r
  | [], out, h1, h2, h => by
    have e : cl n [] = [] := rfl
    rw [e, List.append_nil] at h
    refine Ev.step (fun k => ?_) h
    rw [tree_Sketch.l1, if_neg (by simp)]
    rfl
  | e :: t, out, h1, h2, h => by
    simp only [List.length_cons] at h1 h2
    obtain ⟨a, b, c⟩ := rev_last e t (by omega)
    have q0 : (((e :: t).reverse.length : Nat) : Int) > 0 := by rw [List.length_reverse, List.length_cons]; omega
    have q1 : (0 : Int) ≤ (t.length : Int) := by omega
    have q2 : (t.length : Int) < (((e :: t).reverse.length : Nat) : Int) := by rw [List.length_reverse, List.length_cons]; omega
    by_cases ce : e = n
    · subst ce
      have hp : pops e (e :: t) = pops e t := by simp only [pops]; rw [if_pos trivial]
      rw [cl_cons_same, hp] at h
      have h' : Ev (fun k => tree_Sketch.j2 k l ((out ++ [41]) ++ cl e t) (pops e t).reverse e) r := by
        rw [List.append_assoc]
        exact h
      refine Ev.step (fun k => ?_) (pop_loop l e r t (out ++ [41]) (by omega) (by rw [List.length_append, List.length_singleton]; omega) h')
      rw [tree_Sketch.l1, if_pos q0, a, if_pos q1, if_pos q2, if_pos b, if_pos (by omega), Int.toNat_natCast, c]
    · obtain ⟨x, y⟩ := cl_no (t := t) ce
      rw [x, y, List.append_nil] at h
      refine Ev.step (fun k => ?_) h
      rw [tree_Sketch.l1, if_pos q0, a, if_pos q1, if_pos q2, if_neg (by rw [b]; exact ce)]
theorem end_loop (o : List Int) (ho : o.length < 4398046511104) : ∀ (d : Nat) (j : Nat) (out : List UInt8), o.length - j = d → j ≤ o.length → out.length + d < 140737488355328 → Ev (fun k => tree_Sketch.l2 k out o (j : Int)) (out ++ List.replicate d 41)
  | 0, j, out, hd, hj, hb => by
    refine Ev.step (f := fun _ => some (out ++ List.replicate 0 41)) (fun k => ?_) (Ev.now _)
    rw [tree_Sketch.l2, if_neg (by omega)]
    simp
  | d + 1, j, out, hd, hj, hb => by
    have ih := end_loop o ho d (j + 1) (out ++ [41]) (by omega) (by omega) (by rw [List.length_append, List.length_singleton]; omega)
    rw [List.append_assoc] at ih
    refine Ev.step (fun k => ?_) ih
    rw [tree_Sketch.l2, if_pos (by omega), if_pos (by omega), w64' (by omega) (by omega)]
    rfl
theorem nmB_len {x : S43} (h0 : 0 ≤ x.f0) (h1 : x.f0 < 58) : (nmB x).length ≤ 20 := by
  unfold nmB
  rw [Array.length_toList]
  exact tab_size h0 h1
theorem cl_len (n : Int) (t : List Int) : (cl n t).length + (pops n t).length = t.length := by
  unfold cl
  rw [List.length_replicate]
  have := pops_len n t
  omega
theorem prog_l0 (l : List S43) (hl : l.length < 4398046511104) (hk : ∀ x ∈ l, 0 ≤ x.f0 ∧ x.f0 ≤ 255) (hz : (rd_T43 l 0).f3 = (l.length : Int)) : ∀ (f : Nat) (n : Int) (t s : List Int) (out : List UInt8), n + f = (l.length : Int) → 0 ≤ n → run l f n s = true → pops n s = pops n t → SInv l n t →
    (out.length : Int) + t.length ≤ 23 * n → (t.length : Int) ≤ n → Ev (fun k => tree_Sketch.l0 k l out t.reverse n) (out ++ skf l f n t)
  | 0, n, t, s, out, hf, h0, hr, hp, hi, hb, ht => by
    have hE := end_loop t.reverse (by rw [List.length_reverse]; omega) t.length 0 out (by rw [List.length_reverse]; omega) (Nat.zero_le _) (by omega)
    refine Ev.step (fun k => ?_) hE
    rw [tree_Sketch.l0, if_neg (by omega)]
    rfl
  | f + 1, n, t, s, out, hf, h0, hr, hp, hi, hb, ht => by
    have hn : n < (l.length : Int) := by omega
    obtain ⟨r1, r2, r3, r4⟩ := run_out hr
    rw [hp] at r3 r4
    have hx : rd_T43 l n ∈ l := by
      have e : rd_T43 l n = l[n.toNat]'(by omega) := by simp [rd_T43, List.getD_eq_getElem?_getD, show n.toNat < l.length by omega]
      rw [e]; exact List.getElem_mem _
    have hk0 := (hk _ hx).1
    have hin := hi.next h0 hn r2 r3 hz
    have hpn := pops_next (l := l) (n := n) (u := pops n t) r2
    have hcl := cl_len n t
    have hnl := nmB_len hk0 r1
    have hw : wrap64 (n + 1) = n + 1 := w64' (by omega) (by omega)
    have hE := endOf_le (n := n) (l := l) (t := pops n t) (fun e he => (hi.rg e (pops_mem he)).2)
    have hwe : wrap64 (n + (rd_T43 l n).f3) = n + (rd_T43 l n).f3 := w64' (by omega) (by omega)
    have hgl : (gapB l n).length ≤ 1 := by unfold gapB; split <;> simp
    refine Ev.step (f := fun k => tree_Sketch.l1 k l out t.reverse n) (fun k => by rw [tree_Sketch.l0, if_pos hn, if_pos h0]) (pop_loop l n _ t out (by omega) (by omega) ?_)
    have hj3 : Ev (fun k => tree_Sketch.j3 k l (out ++ cl n t ++ gapB l n) (pops n t).reverse n) (out ++ skf l (f + 1) n t) := by
      simp only [skf]
      by_cases c : (rd_T43 l n).f3 > 1
      · rw [if_pos c] at hin hpn ⊢
        have ih := prog_l0 l hl hk hz f (n + 1) _ _ (out ++ cl n t ++ gapB l n ++ nmB (rd_T43 l n) ++ [40]) (by omega) (by omega) r4 hpn hin (by simp only [List.length_append, List.length_cons, List.length_nil]; omega) (by rw [List.length_cons]; omega)
        have e : out ++ cl n t ++ gapB l n ++ nmB (rd_T43 l n) ++ [40] ++ skf l f (n + 1) ((n + (rd_T43 l n).f3) :: pops n t) = out ++ (cl n t ++ gapB l n ++ nmB (rd_T43 l n) ++ 40 :: skf l f (n + 1) ((n + (rd_T43 l n).f3) :: pops n t)) := by simp
        rw [e] at ih
        refine Ev.step (fun k => ?_) ih
        rw [tree_Sketch.j3, if_pos c, hw, hwe, List.reverse_cons]
        rfl
      · rw [if_neg c] at hin hpn ⊢
        have ih := prog_l0 l hl hk hz f (n + 1) _ _ (out ++ cl n t ++ gapB l n ++ nmB (rd_T43 l n)) (by omega) (by omega) r4 hpn hin (by simp only [List.length_append]; omega) (by omega)
        have e : out ++ cl n t ++ gapB l n ++ nmB (rd_T43 l n) ++ skf l f (n + 1) (pops n t) = out ++ (cl n t ++ gapB l n ++ nmB (rd_T43 l n) ++ skf l f (n + 1) (pops n t)) := by simp
        rw [e] at ih
        refine Ev.step (fun k => ?_) ih
        rw [tree_Sketch.j3, if_neg c, hw]
        rfl
    refine Ev.step (fun k => ?_) hj3
    rw [tree_Sketch.j2, if_pos ⟨by rw [List.length_append]; omega, by rw [List.length_reverse]; omega, hk0, r1⟩]
    unfold gapB
    by_cases c1 : 0 < n
    · have hw1 : wrap64 (n - 1) = n - 1 := w64' (by omega) (by omega)
      rw [if_pos c1, hw1, if_pos (by omega), if_pos (by omega)]
      by_cases c2 : (rd_T43 l (n - 1)).f3 = 1
      · rw [if_pos c2, if_pos ⟨c1, c2⟩]
      · rw [if_neg c2, if_neg (fun z => c2 z.2), List.append_nil]
    · rw [if_neg c1, if_neg (fun z => c1 z.1), List.append_nil]
/-! ### The document's writer -/
/-- A shape's text. -/
def skT (l : List S43) : ByteArray := if shapedB l = true then ⟨(skf l l.length 0 []).toArray⟩ else ⟨#[]⟩
theorem SInv.zero (l : List S43) : SInv l 0 [] := ⟨(fun e h => by cases h), List.Pairwise.nil, fun h => absurd h (by omega)⟩
theorem shaped_out {l : List S43} (h : shapedB l = true) : 0 < l.length ∧ (rd_T43 l 0).f3 = (l.length : Int) ∧ run l l.length 0 [] = true := by
  unfold shapedB at h
  simp only [Bool.and_eq_true, decide_eq_true_eq] at h
  refine ⟨h.1, h.2.1, ?_⟩
  rw [run_all l h.1 h.2.1]
  exact h.2.2
theorem Sketch_is (l : List S43) (hl : l.length < 4398046511104) (hk : ∀ x ∈ l, 0 ≤ x.f0 ∧ x.f0 ≤ 255) : Ev (fun k => tree_Sketch.f k l) (skT l) := by
  unfold tree_Sketch.f skT
  refine Ev.bind (shaped_is l (by omega)) ?_
  by_cases h : shapedB l = true
  · obtain ⟨h1, h2, h3⟩ := shaped_out h
    simp only [if_pos h]
    have := prog_l0 l hl hk h2 l.length 0 [] [] [] (by omega) (by omega) h3 rfl (SInv.zero l) (by simp) (by simp)
    exact Ev.bind this (Ev.now _)
  · simp only [if_neg h]
    exact Ev.now _
end Go.Proofs.YtodldpdnhcafpaaDoor.Q

-- TreeShapes, plainly: the text as a row of letters; names at its beginning
namespace Go.Proofs.YtodldpdnhcafpaaDoor.Q
open Go.RowKit Go.Proofs.YtodldpdnhcafpaaDoorW.PrintWords Go.Proofs.YtodldpdnhcafpaaDoorW.PrintLast Go.Proofs.YtodldpdnhcafpaaDoorW.PrintMore
open Go.Proofs.YtodldpdnhcafpaaDoor.F
set_option linter.unusedSimpArgs false
set_option linter.unusedVariables false
/-- What is left of a text from a place on. -/
def T (s : ByteArray) (a : Nat) : List UInt8 := s.data.toList.drop a
theorem T_len (s : ByteArray) (a : Nat) : (T s a).length = s.size - a := by unfold T; rw [List.length_drop]; rfl
theorem T_head {s : ByteArray} {a : Nat} (h : a < s.size) : T s a = (s[a]'h) :: T s (a + 1) := by
  unfold T
  rw [List.drop_eq_getElem_cons (show a < s.data.toList.length from h)]
  rfl
theorem T_end {s : ByteArray} {a : Nat} (h : s.size ≤ a) : T s a = [] := List.drop_eq_nil_of_le h
/-- The letter at a place. -/
theorem T_at {s : ByteArray} {a : Nat} {c : UInt8} : (a < s.size ∧ bt s (a : Int) = (c.toNat : Int)) ↔ ∃ r, T s a = c :: r := by
  constructor
  · rintro ⟨h, e⟩
    rw [bt_in s a h] at e
    refine ⟨T s (a + 1), ?_⟩
    rw [T_head h]
    congr 1
    exact UInt8.toNat_inj.1 (by omega)
  · rintro ⟨r, e⟩
    by_cases h : a < s.size
    · rw [T_head h] at e
      refine ⟨h, ?_⟩
      rw [bt_in s a h, (List.cons.inj e).1]
    · rw [T_end (by omega)] at e; cases e
theorem T_next {s : ByteArray} {a : Nat} {c : UInt8} {r : List UInt8} (h : T s a = c :: r) : T s (a + 1) = r := by
  have := (T_at.2 ⟨r, h⟩).1
  rw [T_head this] at h
  exact (List.cons.inj h).2
theorem T_app {s : ByteArray} {a : Nat} {u r : List UInt8} (h : T s a = u ++ r) : T s (a + u.length) = r := by
  have e : (T s a).drop u.length = r := by rw [h]; simp
  unfold T at *
  rw [List.drop_drop] at e
  exact e
theorem ex_list (s : ByteArray) (a b : Nat) : (s.extract a b).data.toList = (s.data.toList.drop a).take (b - a) := by
  rw [ByteArray.data_extract, Array.toList_extract]
theorem T_ex (s : ByteArray) (a : Nat) : (s.extract a s.size).data.toList = T s a := by
  rw [ex_list]
  unfold T
  rw [List.take_of_length_le]
  rw [List.length_drop]
  exact Nat.le_refl _
theorem nm_letters : ((List.range 58).all fun i => (nm i).data.toList.all fun b => decide (65 ≤ b.toNat)) = true := by decide +kernel
theorem nm_letter {i : Nat} (h : i < 58) {b : UInt8} (hb : b ∈ (nm i).data.toList) : 65 ≤ b.toNat := by
  have := List.all_eq_true.1 nm_letters i (List.mem_range.2 h)
  simpa using List.all_eq_true.1 this b hb
/-- A text that begins with a name and then no letter. -/
theorem lgo_name {t : ByteArray} {i : Nat} (hi : i < 58) {rest : List UInt8} (h : t.data.toList = (nm i).data.toList ++ rest) (hb : ∀ c r, rest = c :: r → c.toNat < 65) : lgo t = ((i : Int), ((nm i).size : Int)) := by
  have hts : t.size = (nm i).size + rest.length := by
    have := congrArg List.length h
    rw [List.length_append] at this
    exact this
  have hex : (nm i) = t.extract 0 (nm i).size := by
    have e : (nm i).data.toList = (t.extract 0 (nm i).size).data.toList := by
      rw [ex_list, h, List.drop_zero, Nat.sub_zero]
      show _ = List.take (nm i).data.toList.length _
      simp
    exact ByteArray.ext (Array.ext' e)
  have hfull : lc t (nm i) = (nm i).size := full_iff.2 ⟨by omega, hex⟩
  refine lgo_of ⟨fun j hj => ?_, Or.inr ⟨i, hi, by rw [hfull]⟩, ⟨by omega, by omega⟩, fun j e => ?_, fun e => ?_⟩
  · have hl := lc_like t (nm j)
    by_cases c : lc t (nm j) ≤ (nm i).size
    · omega
    · exfalso
      have h1 : (nm i).size < t.size := by have := hl.1; omega
      have h2 : (nm i).size < (nm j).size := by have := hl.2.1; omega
      have e := hl.2.2 (nm i).size (by omega)
      rw [bt_in t _ h1, bt_in (nm j) _ h2] at e
      have hm : (nm j)[(nm i).size] ∈ (nm j).data.toList := by
        have : (nm j)[(nm i).size] = (nm j).data.toList[(nm i).size]'h2 := rfl
        rw [this]
        exact List.getElem_mem _
      have h65 := nm_letter hj hm
      have hr : T t (nm i).size = rest := by
        have := T_app (s := t) (a := 0) (u := (nm i).data.toList) (r := rest) (by unfold T; rw [List.drop_zero]; exact h)
        rw [Nat.zero_add] at this
        exact this
      rw [T_head h1] at hr
      have := hb _ _ hr.symm
      omega
  · obtain rfl : i = j := by omega
    exact hex
  · omega
/-- What a name found at a place says of the text. -/
theorem lgo_found {s : ByteArray} (hs : s.size ≤ 1099511627776) {a : Nat} (ha : a ≤ s.size) {K : Int} {M : Nat} (h : lgo (s.extract a s.size) = (K, (M : Int))) (hK : ¬ K < 0) : K < 58 ∧ 1 ≤ M ∧ a + M ≤ s.size ∧ T s a = (nm K.toNat).data.toList ++ T s (a + M) := by
  have hsz : (s.extract a s.size).size = s.size - a := ex_size _ (Nat.le_refl _)
  have hL := lgo_is (t := s.extract a s.size) (by rw [hsz]; omega)
  rw [h] at hL
  have hm := hL.m0
  rw [hsz] at hm
  have hp := hL.pos hK
  simp only at hm hp
  have hy := hL.yes K.toNat (by omega)
  refine ⟨hL.in_.2, by omega, by omega, ?_⟩
  have e : (nm K.toNat).data.toList = (T s a).take M := by
    rw [hy, ex_list, T_ex, List.drop_zero, Nat.sub_zero, Int.toNat_natCast]
  rw [e]
  unfold T
  rw [← List.drop_drop, List.take_append_drop]
end Go.Proofs.YtodldpdnhcafpaaDoor.Q

-- TreeShapes, plainly: a sketch of a shaped tree draws the tree's kinds and sizes
namespace Go.Proofs.YtodldpdnhcafpaaDoor.Q
open Go.RowKit Go.Proofs.YtodldpdnhcafpaaDoorW.PrintWords Go.Proofs.YtodldpdnhcafpaaDoorW.PrintLast Go.Proofs.YtodldpdnhcafpaaDoorW.PrintMore
open Go.Proofs.YtodldpdnhcafpaaDoor.F
set_option linter.unusedSimpArgs false
set_option linter.unusedVariables false
theorem rd_get {l : List S43} {i : Nat} (h : i < l.length) : rd_T43 l (i : Int) = l[i] := by
  simp [rd_T43, List.getD_eq_getElem?_getD, h]
theorem ext43 {xs ys : List S43} (hl : xs.length = ys.length) (h : ∀ i : Nat, i < xs.length → rd_T43 xs (i : Int) = rd_T43 ys (i : Int)) : xs = ys := by
  refine List.ext_getElem hl (fun i h1 h2 => ?_)
  have := h i h1
  rwa [rd_get h1, rd_get h2] at this
/-- The first n nodes drawn, the ones of o still open. -/
def dn (l : List S43) (n : Nat) (o : List Int) : List S43 := (List.range n).map fun (i : Nat) => (⟨(rd_T43 l (i : Int)).f0, 0, 0, if (i : Int) ∈ o then 1 else (rd_T43 l (i : Int)).f3⟩ : S43)
theorem dn_len (l : List S43) (n : Nat) (o : List Int) : (dn l n o).length = n := by simp [dn]
theorem dn_rd (l : List S43) {n : Nat} (o : List Int) {i : Nat} (h : i < n) : rd_T43 (dn l n o) (i : Int) = ⟨(rd_T43 l (i : Int)).f0, 0, 0, if (i : Int) ∈ o then 1 else (rd_T43 l (i : Int)).f3⟩ := by
  rw [rd_get (by rw [dn_len]; exact h)]
  simp [dn]
theorem dn_cong (l : List S43) {n : Nat} {o p : List Int} (h : ∀ i : Nat, i < n → ((i : Int) ∈ o ↔ (i : Int) ∈ p)) : dn l n o = dn l n p := by
  refine ext43 (by rw [dn_len, dn_len]) (fun i hi => ?_)
  rw [dn_len] at hi
  rw [dn_rd l o hi, dn_rd l p hi]
  by_cases c : (i : Int) ∈ o
  · rw [if_pos c, if_pos ((h i hi).1 c)]
  · rw [if_neg c, if_neg (fun z => c ((h i hi).2 z))]
theorem dn_succ (l : List S43) (n : Nat) (o : List Int) : dn l (n + 1) o = dn l n o ++ [⟨(rd_T43 l (n : Int)).f0, 0, 0, if (n : Int) ∈ o then 1 else (rd_T43 l (n : Int)).f3⟩] := by
  unfold dn
  rw [List.range_succ, List.map_append]
  rfl
theorem rd_set43 {xs : List S43} {j : Nat} (hj : j < xs.length) (x : S43) (i : Nat) (hi : i < xs.length) : rd_T43 (xs.set j x) (i : Int) = if i = j then x else rd_T43 xs (i : Int) := by
  rw [rd_get (by rw [List.length_set]; exact hi), rd_get hi, List.getElem_set]
  by_cases c : j = i
  · rw [if_pos c, if_pos c.symm]
  · rw [if_neg c, if_neg (fun z => c z.symm)]
/-- The innermost open one closes. -/
theorem dn_set (l : List S43) {n : Nat} {k : Int} {u : List Int} (h0 : 0 ≤ k) (h1 : k < n) (hu : k ∉ u) (hs : (rd_T43 l k).f3 = (n : Int) - k) :
    (dn l n (k :: u).reverse).set k.toNat ⟨(rd_T43 (dn l n (k :: u).reverse) k).f0, (rd_T43 (dn l n (k :: u).reverse) k).f1, (rd_T43 (dn l n (k :: u).reverse) k).f2, (n : Int) - k⟩ = dn l n u.reverse := by
  have hkn : ((k.toNat : Nat) : Int) = k := Int.toNat_of_nonneg h0
  have hk1 : k.toNat < n := by omega
  have hr := dn_rd l (k :: u).reverse hk1
  rw [hkn] at hr
  rw [hr]
  refine ext43 (by rw [List.length_set, dn_len, dn_len]) (fun i hi => ?_)
  rw [List.length_set, dn_len] at hi
  rw [rd_set43 (by rw [dn_len]; exact hk1) _ i (by rw [dn_len]; exact hi), dn_rd l u.reverse hi]
  by_cases c : i = k.toNat
  · subst c
    rw [if_pos rfl, hkn]
    dsimp only
    rw [if_neg (by simpa using hu), hs]
  · rw [if_neg c, dn_rd l _ hi]
    have hc : (i : Int) ≠ k := by omega
    by_cases d : (i : Int) ∈ u
    · rw [if_pos (by simp [d]), if_pos (by simpa using d)]
    · rw [if_neg (by simp [d, hc]), if_neg (by simpa using d)]
theorem rev_top (k : Int) (u : List Int) : rd ((k :: u).reverse) (((k :: u).reverse.length - 1 : Nat) : Int) = k ∧ ((k :: u).reverse).take ((k :: u).reverse.length - 1) = u.reverse := by
  simp [rd, List.getD_eq_getElem?_getD, List.reverse_cons]
/-- Where an open node ends. -/
def en (l : List S43) (k : Int) : Int := k + (rd_T43 l k).f3
theorem cls_fw (s : ByteArray) (l : List S43) (n : Nat) : ∀ (u : List Int) (d a : Nat) (rest : List UInt8), u.length ≤ d → (∀ k ∈ u, 0 ≤ k ∧ k < n) → u.Nodup → T s a = cl (n : Int) (u.map (en l)) ++ rest → (∀ r, rest ≠ 41 :: r) →
    ∃ (a' : Nat) (u' : List Int), cls s d a u.reverse (dn l n u.reverse) = (a', u'.reverse, dn l n u'.reverse) ∧ u' <:+ u ∧ u'.map (en l) = pops (n : Int) (u.map (en l)) ∧ T s a' = rest ∧ a ≤ a' ∧ (a ≤ s.size → a' ≤ s.size)
  | [], d, a, rest, hd, hk, hn, hT, hr => by
    have e : cls s d a [] (dn l n []) = (a, [], dn l n []) := by
      cases d with
      | zero => rfl
      | succ d => rw [cls, if_neg (fun z => absurd z.2.2 (by simp))]
    refine ⟨a, [], e, List.suffix_refl _, rfl, ?_, Nat.le_refl _, id⟩
    rw [hT]
    simp [cl, pops]
  | k :: u, d, a, rest, hd, hk, hn, hT, hr => by
    obtain ⟨k0, k1⟩ := hk k List.mem_cons_self
    obtain ⟨d, rfl⟩ : ∃ d', d = d' + 1 := ⟨d - 1, by rw [List.length_cons] at hd; omega⟩
    have hnu := (List.nodup_cons.1 hn)
    by_cases c : en l k = (n : Int)
    · have hc : cl (n : Int) ((k :: u).map (en l)) = 41 :: cl (n : Int) (u.map (en l)) := by rw [List.map_cons, c]; exact cl_cons_same _ _
      rw [hc, List.cons_append] at hT
      have hat := (T_at (c := 41)).2 ⟨_, hT⟩
      obtain ⟨t1, t2⟩ := rev_top k u
      obtain ⟨a', u', h1, h2, h3, h4, h5, h6⟩ := cls_fw s l n u d (a + 1) rest (by rw [List.length_cons] at hd; omega) (fun x hx => hk x (List.mem_cons_of_mem _ hx)) hnu.2 (T_next hT) hr
      refine ⟨a', u', ?_, h2.trans (List.suffix_cons _ _), ?_, h4, by omega, fun _ => h6 (by have := hat.1; omega)⟩
      · rw [cls, if_pos ⟨hat.1, hat.2, by simp⟩, t1, t2, dn_len]
        have hs : (rd_T43 l k).f3 = (n : Int) - k := by unfold en at c; omega
        rw [dn_set l k0 k1 hnu.1 hs]
        exact h1
      · rw [h3, List.map_cons, c]
        simp only [pops, if_true]
    · obtain ⟨h1, h2⟩ := cl_no (n := (n : Int)) (t := u.map (en l)) c
      rw [List.map_cons, h1, List.nil_append] at hT
      refine ⟨a, k :: u, ?_, List.suffix_refl _, by rw [List.map_cons, h2], hT, Nat.le_refl _, id⟩
      rw [cls, if_neg]
      rintro ⟨z1, z2, _⟩
      obtain ⟨r, hr'⟩ := (T_at (c := 41)).1 ⟨z1, z2⟩
      rw [hT] at hr'
      exact hr r hr'
theorem pops_all {n : Int} {t : List Int} (h : ∀ e ∈ t, n < e) : pops n t = t := by
  cases t with
  | nil => rfl
  | cons e t => simp only [pops]; rw [if_neg (by have := h e List.mem_cons_self; omega)]
theorem cl_all {n : Int} {t : List Int} (h : ∀ e ∈ t, n < e) : cl n t = [] := by
  unfold cl
  rw [pops_all h]
  simp
theorem cl_end {n : Int} : ∀ {t : List Int}, (∀ e ∈ t, e = n) → cl n t = List.replicate t.length 41 ∧ pops n t = []
  | [], _ => ⟨by simp [cl, pops], rfl⟩
  | e :: t, h => by
    obtain rfl := h e List.mem_cons_self
    obtain ⟨a, b⟩ := cl_end (t := t) (fun x hx => h x (List.mem_cons_of_mem _ hx))
    refine ⟨by rw [cl_cons_same, a]; rfl, ?_⟩
    simp only [pops, if_true]
    exact b
/-- What is written from a node's name on. -/
def skn (l : List S43) (f : Nat) (n : Int) (t : List Int) : List UInt8 := nmB (rd_T43 l n) ++ (if (rd_T43 l n).f3 > 1 then 40 :: skf l f (n + 1) ((n + (rd_T43 l n).f3) :: t) else skf l f (n + 1) t)
theorem skf_skn (l : List S43) (f : Nat) (n : Int) (t : List Int) : skf l (f + 1) n t = cl n t ++ (gapB l n ++ skn l f n (pops n t)) := by
  simp only [skf, skn, List.append_assoc]
theorem nmB_nm {x : S43} (h : 0 ≤ x.f0) : nmB x = (nm x.f0.toNat).data.toList := by
  unfold nmB
  rw [show nmL x.f0 = nm x.f0.toNat from nm_def _ h]
end Go.Proofs.YtodldpdnhcafpaaDoor.Q

-- TreeShapes, plainly: a sketch draws what it was made of
namespace Go.Proofs.YtodldpdnhcafpaaDoor.Q
open Go.RowKit Go.Proofs.YtodldpdnhcafpaaDoorW.PrintWords Go.Proofs.YtodldpdnhcafpaaDoorW.PrintLast Go.Proofs.YtodldpdnhcafpaaDoorW.PrintMore
open Go.Proofs.YtodldpdnhcafpaaDoor.F
set_option linter.unusedSimpArgs false
set_option linter.unusedVariables false
theorem draw_sketch (s : ByteArray) (hs : s.size ≤ 1099511627776) (l : List S43) (hk : ∀ x ∈ l, 0 ≤ x.f0 ∧ x.f0 ≤ 255) (hz : (rd_T43 l 0).f3 = (l.length : Int)) : ∀ (f n a : Nat) (u sr : List Int) (d : Nat), n + f + 1 = l.length → (∀ k ∈ u, 0 ≤ k ∧ k < n) → u.Nodup →
    run l (f + 1) n sr = true → pops n sr = pops n (u.map (en l)) → SInv l n (u.map (en l)) → (∀ e ∈ u.map (en l), (n : Int) < e) → T s a = skn l f n (u.map (en l)) → s.size - a < d → a ≤ s.size → n ≤ a → u.length ≤ n →
    dgo s d a u.reverse (dn l n u.reverse) = (dn l l.length [], 0, 0)
  | f, n, a, u, sr, 0, hf, hu, hnd, hr, hp, hi, hg, hT, hd, ha, hna, hul => by omega
  | f, n, a, u, sr, d + 1, hf, hu, hnd, hr, hp, hi, hg, hT, hd, ha, hna, hul => by
    have hn : (n : Int) < (l.length : Int) := by omega
    obtain ⟨r1, r2, r3, r4⟩ := run_out hr
    rw [hp] at r3 r4
    have hx : rd_T43 l n ∈ l := by
      rw [rd_get (by omega)]; exact List.getElem_mem _
    have hk0 := (hk _ hx).1
    have hin := hi.next (by omega) hn r2 r3 hz
    have hpn := pops_next (l := l) (n := n) (u := pops n (u.map (en l))) r2
    rw [pops_all hg] at hin hpn r4 r3
    have hE := endOf_le (n := n) (l := l) (t := u.map (en l)) (fun e he => (hi.rg e he).2)
    obtain ⟨K, hK⟩ : ∃ K : Nat, (rd_T43 l n).f0 = (K : Int) := ⟨(rd_T43 l n).f0.toNat, by omega⟩
    have hnm : nmB (rd_T43 l n) = (nm K).data.toList := by rw [nmB_nm hk0, hK, Int.toNat_natCast]
    have hM0 := nm_size (i := K) (by omega)
    have hmem : (n : Int) ∉ u := fun z => by have := (hu _ z).2; omega
    have hlen : ((nm K).data.toList).length = (nm K).size := rfl
    unfold skn at hT
    rw [hnm] at hT
    -- behind the name no letter follows
    have hnx : T s (a + (nm K).size) = (if (rd_T43 l n).f3 > 1 then 40 :: skf l f (n + 1) ((n + (rd_T43 l n).f3) :: u.map (en l)) else skf l f (n + 1) (u.map (en l))) := T_app (u := (nm K).data.toList) hT
    have hle : a + (nm K).size ≤ s.size := by
      have := T_len s a
      rw [hT, List.length_append, hlen] at this
      omega
    have hcast : ((n : Int) + 1) = ((n + 1 : Nat) : Int) := by omega
    by_cases c : (rd_T43 l n).f3 > 1
    · -- it opens
      rw [if_pos c] at hT hnx hin hpn
      have hlg : lgo (s.extract a s.size) = ((K : Int), ((nm K).size : Int)) := lgo_name (by omega) (by rw [T_ex]; exact hT) (fun x r e => by rw [← (List.cons.inj e).1]; decide)
      have hat : a + (nm K).size < s.size ∧ bt s ((a + (nm K).size : Nat) : Int) = 40 := (T_at (c := 40)).2 ⟨_, hnx⟩
      rw [dgo_succ s d a _ _ hlg, if_neg (by omega), if_pos hat, dn_len]
      obtain ⟨g, rfl⟩ : ∃ g, f = g + 1 := ⟨f - 1, by omega⟩
      have hT2 := T_next hnx
      have e1 : (u.reverse ++ [(n : Int)]) = ((n : Int) :: u).reverse := by simp
      have e2 : dn l n u.reverse ++ [⟨(K : Int), 0, 0, 1⟩] = dn l (n + 1) ((n : Int) :: u).reverse := by
        rw [dn_succ, if_pos (by simp), hK]
        congr 1
        refine dn_cong l (fun i hi => ?_)
        have : (i : Int) ≠ (n : Int) := by omega
        simp [this]
      rw [e1, e2]
      have e3 : ((n : Int) :: u).map (en l) = ((n : Int) + (rd_T43 l n).f3) :: u.map (en l) := rfl
      have hg2 : ∀ e ∈ ((n : Int) :: u).map (en l), ((n + 1 : Nat) : Int) < e := by
        rw [e3]
        intro e he
        rcases List.mem_cons.1 he with rfl | he
        · omega
        · have hs2 := (List.pairwise_cons.1 hin.srt).1 e he
          omega
      rw [hcast] at hT2 r4 hpn hin
      rw [skf_skn] at hT2
      have hgap : gapB l ((n + 1 : Nat) : Int) = [] := by
        unfold gapB
        rw [if_neg]
        rintro ⟨_, z⟩
        rw [show ((n + 1 : Nat) : Int) - 1 = (n : Int) by omega] at z
        omega
      rw [← e3] at hT2 r4 hpn hin
      rw [cl_all hg2, hgap, pops_all hg2, List.nil_append, List.nil_append] at hT2
      refine draw_sketch s hs l hk hz g (n + 1) _ ((n : Int) :: u) _ d (by omega) ?_ (List.nodup_cons.2 ⟨hmem, hnd⟩) r4 hpn hin hg2 hT2 (by have := hat.1; omega) ?_ ?_ ?_
      · intro k hk'
        rcases List.mem_cons.1 hk' with rfl | hk'
        · omega
        · have := hu k hk'; omega
      · have := hat.1; omega
      · omega
      · rw [List.length_cons]; omega
    · -- it is a leaf
      rw [if_neg c] at hT hnx hin hpn
      have h1 : (rd_T43 l n).f3 = 1 := by omega
      have e2 : dn l n u.reverse ++ [⟨(K : Int), 0, 0, 1⟩] = dn l (n + 1) u.reverse := by
        rw [dn_succ, if_neg (by simpa using hmem), hK, h1]
      have hu1 : ∀ k ∈ u, 0 ≤ k ∧ k < ((n + 1 : Nat) : Int) := fun k hk' => by have := hu k hk'; omega
      have hstep : ∀ rest, T s (a + (nm K).size) = cl ((n + 1 : Nat) : Int) (u.map (en l)) ++ rest → (∀ r, rest ≠ 41 :: r) → (∀ x r, rest = x :: r → x = 32) →
          ∃ (a' : Nat) (u' : List Int), dgo s (d + 1) a u.reverse (dn l n u.reverse) = dend s d a' u'.reverse (dn l (n + 1) u'.reverse) ∧ u' <:+ u ∧ u'.map (en l) = pops ((n + 1 : Nat) : Int) (u.map (en l)) ∧ T s a' = rest ∧ a + (nm K).size ≤ a' ∧ a' ≤ s.size := by
        intro rest hq hq1 hq2
        have hlg : lgo (s.extract a s.size) = ((K : Int), ((nm K).size : Int)) := by
          refine lgo_name (rest := T s (a + (nm K).size)) (by omega) (by rw [T_ex, hnx]; exact hT) (fun x r e => ?_)
          rw [hq] at e
          unfold cl at e
          cases hm : (u.map (en l)).length - (pops ((n + 1 : Nat) : Int) (u.map (en l))).length with
          | zero =>
            rw [hm] at e
            rw [hq2 x r e]
            decide
          | succ m =>
            rw [hm, List.replicate_succ, List.cons_append] at e
            rw [← (List.cons.inj e).1]
            decide
        obtain ⟨a', u', g1, g2, g3, g4, g5, g6⟩ := cls_fw s l (n + 1) u s.size (a + (nm K).size) rest (by omega) hu1 hnd hq hq1
        refine ⟨a', u', ?_, g2, g3, g4, g5, g6 hle⟩
        rw [dgo_succ s d a _ _ hlg, if_neg (by omega), if_neg, e2, g1]
        intro z
        obtain ⟨r, hz'⟩ := (T_at (c := 40)).1 z
        rw [hq] at hz'
        unfold cl at hz'
        cases hm : (u.map (en l)).length - (pops ((n + 1 : Nat) : Int) (u.map (en l))).length with
        | zero =>
          rw [hm] at hz'
          have := hq2 _ _ hz'
          revert this
          decide
        | succ m =>
          rw [hm, List.replicate_succ, List.cons_append] at hz'
          have := (List.cons.inj hz').1
          revert this
          decide
      cases f with
      | zero =>
        have hall : ∀ e ∈ u.map (en l), e = ((n + 1 : Nat) : Int) := fun e he => by
          have h2 := hg e he
          have h3 := (hi.rg e he).2
          omega
        obtain ⟨c1, c2⟩ := cl_end hall
        obtain ⟨a', u', g1, g2, g3, g4, g5, g6⟩ := hstep [] (by rw [hnx, c1, List.append_nil]; rfl) (fun r z => by cases z) (fun x r z => by cases z)
        rw [c2] at g3
        obtain rfl : u' = [] := List.map_eq_nil_iff.1 g3
        have h5 := T_len s a'
        rw [g4, List.length_nil] at h5
        rw [g1]
        unfold dend
        rw [if_pos (show ([] : List Int).reverse = [] from rfl), if_pos (by omega)]
        have : n + 1 = l.length := by omega
        rw [this]
        rfl
      | succ g =>
        rw [hcast] at hnx r4 hpn hin
        rw [skf_skn] at hnx
        have hgap : gapB l ((n + 1 : Nat) : Int) = [32] := by
          unfold gapB
          rw [if_pos]
          refine ⟨by omega, ?_⟩
          rw [show ((n + 1 : Nat) : Int) - 1 = (n : Int) by omega]
          exact h1
        rw [hgap] at hnx
        obtain ⟨a', u', g1, g2, g3, g4, g5, g6⟩ := hstep _ hnx (fun r z => by have := (List.cons.inj z).1; revert this; decide) (fun x r z => (List.cons.inj z).1.symm)
        have hmem2 : (l.length : Int) ∈ pops ((n + 1 : Nat) : Int) (u.map (en l)) := pops_keep (by omega) (hin.root (by omega) (by omega))
        have hgt : ∀ e ∈ pops ((n + 1 : Nat) : Int) (u.map (en l)), ((n + 1 : Nat) : Int) < e := pops_gt (fun e he => (hin.rg e he).1) hin.srt
        have hin2 : SInv l ((n + 1 : Nat) : Int) (pops ((n + 1 : Nat) : Int) (u.map (en l))) := ⟨fun e he => hin.rg e (pops_mem he), pops_pw _ hin.srt, fun _ _ => hmem2⟩
        have hat : a' < s.size ∧ bt s (a' : Int) = 32 := (T_at (c := 32)).2 ⟨_, g4⟩
        have hne : u'.reverse ≠ [] := by
          intro z
          rw [List.reverse_eq_nil_iff] at z
          subst z
          rw [← g3] at hmem2
          cases hmem2
        rw [g1]
        unfold dend
        rw [if_neg hne, if_pos hat]
        have hsub := g2.subset
        refine draw_sketch s hs l hk hz g (n + 1) (a' + 1) u' _ d (by omega) (fun k hk' => hu1 k (hsub hk')) (hnd.sublist g2.sublist) r4 ?_ ?_ ?_ ?_ (by omega) (by omega) (by omega) ?_
        · rw [g3, pops_all hgt, ← hpn]
        · rw [g3]; exact hin2
        · rw [g3]; exact hgt
        · rw [g3]; exact T_next g4
        · have := g2.length_le; omega
/-- What is kept of a tree: kinds and sizes. -/
def strip (l : List S43) : List S43 := dn l l.length []
theorem draws_sketch (l : List S43) (hl : l.length ≤ 1048576) (hk : ∀ x ∈ l, 0 ≤ x.f0 ∧ x.f0 ≤ 255) (h : shapedB l = true) (hs : (skT l).size ≤ 1099511627776) : dgo (skT l) ((skT l).size + 1) 0 [] [] = (strip l, 0, 0) ∧ skT l ≠ ⟨#[]⟩ := by
  obtain ⟨h0, hz, hr⟩ := shaped_out h
  obtain ⟨f, hf⟩ : ∃ f, l.length = f + 1 := ⟨l.length - 1, by omega⟩
  have hT : T (skT l) 0 = skn l f 0 [] := by
    unfold T skT
    rw [if_pos h, hf, skf_skn]
    rw [List.drop_zero]
    show cl 0 [] ++ (gapB l 0 ++ skn l f 0 (pops 0 [])) = _
    rfl
  have hk0 := hk (rd_T43 l 0) (by rw [show (0 : Int) = ((0 : Nat) : Int) from rfl, rd_get h0]; exact List.getElem_mem _)
  obtain ⟨r1, r2, r3, r4⟩ := run_out (hf ▸ hr)
  have hd := draw_sketch (skT l) hs l hk hz f 0 0 [] [] ((skT l).size + 1) (by omega) (fun k z => by cases z) List.nodup_nil (by rw [hf] at hr; exact hr) rfl (SInv.zero l) (fun e z => by cases z) hT (by omega) (Nat.zero_le _) (Nat.le_refl _) (Nat.le_refl _)
  refine ⟨hd, fun z => ?_⟩
  have e := T_len (skT l) 0
  rw [hT, z] at e
  unfold skn at e
  rw [nmB_nm hk0.1, List.length_append] at e
  have h1 := nm_size (i := (rd_T43 l 0).f0.toNat) (by omega)
  have h2 : ((nm (rd_T43 l 0).f0.toNat).data.toList).length = (nm (rd_T43 l 0).f0.toNat).size := rfl
  rw [h2] at e
  have h3 : (⟨#[]⟩ : ByteArray).size = 0 := rfl
  rw [h3] at e
  omega
end Go.Proofs.YtodldpdnhcafpaaDoor.Q

-- TreeShapes, plainly: what is drawn is sketched as the text was
namespace Go.Proofs.YtodldpdnhcafpaaDoor.Q
open Go.RowKit Go.Proofs.YtodldpdnhcafpaaDoorW.PrintWords Go.Proofs.YtodldpdnhcafpaaDoorW.PrintLast Go.Proofs.YtodldpdnhcafpaaDoorW.PrintMore
open Go.Proofs.YtodldpdnhcafpaaDoor.F
set_option linter.unusedSimpArgs false
set_option linter.unusedVariables false
theorem cls_bw (s : ByteArray) : ∀ (d a : Nat) (u : List Int) (ns : List S43), a ≤ s.size → (∀ k ∈ u, 0 ≤ k ∧ k < ns.length) → u.Nodup →
    ∃ (w u' : List Int) (ns' : List S43), cls s d a u.reverse ns = (a + w.length, u'.reverse, ns') ∧ u = w ++ u' ∧ T s a = List.replicate w.length 41 ++ T s (a + w.length) ∧ a + w.length ≤ s.size ∧ ns'.length = ns.length ∧
      (∀ i : Nat, i < ns.length → rd_T43 ns' (i : Int) = if (i : Int) ∈ w then ⟨(rd_T43 ns (i : Int)).f0, (rd_T43 ns (i : Int)).f1, (rd_T43 ns (i : Int)).f2, (ns.length : Int) - i⟩ else rd_T43 ns (i : Int))
  | 0, a, u, ns, ha, hk, hn => ⟨[], u, ns, rfl, rfl, rfl, ha, rfl, fun i hi => by rw [if_neg (by simp)]⟩
  | d + 1, a, u, ns, ha, hk, hn => by
    by_cases c : a < s.size ∧ bt s (a : Int) = 41 ∧ 0 < u.reverse.length
    · cases u with
      | nil => exact absurd c.2.2 (by simp)
      | cons k u =>
        obtain ⟨t1, t2⟩ := rev_top k u
        obtain ⟨k0, k1⟩ := hk k List.mem_cons_self
        have hnu := List.nodup_cons.1 hn
        obtain ⟨r, hr⟩ := (T_at (c := 41)).1 ⟨c.1, c.2.1⟩
        have hT := T_next hr
        rw [cls, if_pos c, t1, t2]
        obtain ⟨x, hx⟩ : ∃ x : S43, x = ⟨(rd_T43 ns k).f0, (rd_T43 ns k).f1, (rd_T43 ns k).f2, (ns.length : Int) - k⟩ := ⟨_, rfl⟩
        rw [← hx]
        obtain ⟨w, u', ns', g1, g2, g3, g4, g5, g6⟩ := cls_bw s d (a + 1) u (ns.set k.toNat x) (by omega) (fun j hj => by rw [List.length_set]; exact hk j (List.mem_cons_of_mem _ hj)) hnu.2
        rw [List.length_set] at g5 g6
        refine ⟨k :: w, u', ns', ?_, by rw [g2]; rfl, ?_, ?_, g5, fun i hi => ?_⟩
        · rw [g1, List.length_cons, show a + 1 + w.length = a + (w.length + 1) by omega]
        · rw [hr, ← hT, g3, List.length_cons, show a + 1 + w.length = a + (w.length + 1) by omega]
          rfl
        · rw [List.length_cons]; omega
        · have hkw : k ∉ w := fun z => hnu.1 (by rw [g2]; exact List.mem_append_left _ z)
          have hkn : ((k.toNat : Nat) : Int) = k := Int.toNat_of_nonneg k0
          rw [g6 i hi, rd_set43 (by omega) x i hi]
          by_cases e : i = k.toNat
          · subst e
            rw [hkn, if_neg hkw, if_pos rfl, if_pos List.mem_cons_self, hx]
          · have hne : (i : Int) ≠ k := by omega
            rw [if_neg e]
            by_cases e2 : (i : Int) ∈ w
            · rw [if_pos e2, if_pos (List.mem_cons_of_mem _ e2)]
            · rw [if_neg e2, if_neg (by simp [hne, e2])]
    · refine ⟨[], u, ns, ?_, rfl, rfl, ha, rfl, fun i hi => by rw [if_neg (by simp)]⟩
      rw [cls, if_neg c]
      rfl
theorem cl_split {n : Int} : ∀ {x y : List Int}, (∀ e ∈ x, e = n) → (∀ e ∈ y, n < e) → cl n (x ++ y) = List.replicate x.length 41 ∧ pops n (x ++ y) = y
  | [], y, _, h => ⟨by rw [List.nil_append, cl_all h]; rfl, by rw [List.nil_append, pops_all h]⟩
  | e :: x, y, h, hy => by
    obtain rfl := h e List.mem_cons_self
    obtain ⟨a, b⟩ := cl_split (x := x) (y := y) (fun z hz => h z (List.mem_cons_of_mem _ hz)) hy
    refine ⟨by rw [List.cons_append, cl_cons_same, a]; rfl, ?_⟩
    rw [List.cons_append]
    simp only [pops, if_true]
    exact b
theorem run_pops {l : List S43} {f : Nat} {n : Int} {s s' : List Int} (h : pops n s = pops n s') : run l f n s = run l f n s' := by
  cases f with
  | zero => rfl
  | succ f => simp only [run]; rw [h]
theorem run_in {l : List S43} {f : Nat} {n : Int} {s : List Int} (h1 : (rd_T43 l n).f0 < 58) (h2 : 1 ≤ (rd_T43 l n).f3) (h3 : (rd_T43 l n).f3 ≤ endOf l (pops n s) - n) (h4 : run l f (n + 1) ((n + (rd_T43 l n).f3) :: pops n s) = true) : run l (f + 1) n s = true := by
  simp only [run]
  rw [if_neg (by omega), if_neg (by omega), if_neg (by omega)]
  exact h4
theorem rd_app1 (ns : List S43) (x : S43) {i : Nat} (h : i < ns.length) : rd_T43 (ns ++ [x]) (i : Int) = rd_T43 ns (i : Int) := by
  rw [rd_get h, rd_get (by rw [List.length_append]; omega), List.getElem_append_left h]
theorem rd_app2 (ns : List S43) (x : S43) : rd_T43 (ns ++ [x]) (ns.length : Int) = x := by
  rw [rd_get (by simp)]
  simp
/-- A node as Draw makes it. -/
def Ok (x : S43) : Prop := x.f1 = 0 ∧ x.f2 = 0 ∧ 0 ≤ x.f0 ∧ x.f0 < 58
structure Drawn (s : ByteArray) (a : Nat) (u : List Int) (ns l : List S43) (f : Nat) : Prop where
  len : ns.length + f + 1 = l.length
  dn : dn l ns.length u = ns
  ok : ∀ i : Nat, i < l.length → Ok (rd_T43 l (i : Int))
  ends : ∀ e ∈ u.map (en l), (ns.length : Int) < e ∧ e ≤ (l.length : Int)
  srt : (u.map (en l)).Pairwise (· ≤ ·)
  run : run l (f + 1) ns.length (u.map (en l)) = true
  txt : T s a = skn l f ns.length (u.map (en l))
  root : (rd_T43 l 0).f3 = (l.length : Int)
theorem s43_eq {x y : S43} (h0 : x.f0 = y.f0) (h1 : x.f1 = y.f1) (h2 : x.f2 = y.f2) (h3 : x.f3 = y.f3) : x = y := by
  cases x; cases y; simp_all
/-- A leaf behind which some close. -/
theorem drawn_leaf {s : ByteArray} {a : Nat} {K : Int} {w u' : List Int} {ns ns' l : List S43} {f : Nat} {X : List UInt8} (hK : ¬ K < 0) (hu : ∀ k ∈ w ++ u', 0 ≤ k ∧ k < ns.length) (hn : (w ++ u').Nodup) (ho : ∀ i : Nat, i < ns.length → Ok (rd_T43 ns (i : Int))) (h1 : ∀ k ∈ w ++ u', (rd_T43 ns k).f3 = 1)
    (hlen : ns.length + f + 1 = l.length) (h6 : ∀ i : Nat, i < ns.length + 1 → rd_T43 ns' (i : Int) = if (i : Int) ∈ w then ⟨(rd_T43 (ns ++ [⟨K, 0, 0, 1⟩]) (i : Int)).f0, (rd_T43 (ns ++ [⟨K, 0, 0, 1⟩]) (i : Int)).f1, (rd_T43 (ns ++ [⟨K, 0, 0, 1⟩]) (i : Int)).f2, ((ns.length + 1 : Nat) : Int) - i⟩ else rd_T43 (ns ++ [⟨K, 0, 0, 1⟩]) (i : Int))
    (hP : dn l (ns.length + 1) u' = ns') (hok : ∀ i : Nat, i < l.length → Ok (rd_T43 l (i : Int))) (he : ∀ e ∈ u'.map (en l), ((ns.length + 1 : Nat) : Int) < e ∧ e ≤ (l.length : Int)) (hs : (u'.map (en l)).Pairwise (· ≤ ·))
    (hr : run l f ((ns.length + 1 : Nat) : Int) (u'.map (en l)) = true) (hroot : (rd_T43 l 0).f3 = (l.length : Int)) (hT : T s a = (nm K.toNat).data.toList ++ (List.replicate w.length 41 ++ X))
    (hX : (f = 0 ∧ u' = [] ∧ X = []) ∨ ∃ g, f = g + 1 ∧ X = 32 :: skn l g ((ns.length + 1 : Nat) : Int) (u'.map (en l))) : Drawn s a (w ++ u') ns l f := by
  have hcast : ((ns.length : Int) + 1) = ((ns.length + 1 : Nat) : Int) := by omega
  have hmw : (ns.length : Int) ∉ w := fun z => by have := (hu _ (List.mem_append_left _ z)).2; omega
  have hmu : (ns.length : Int) ∉ u' := fun z => by have := (hu _ (List.mem_append_right _ z)).2; omega
  have hrd : ∀ i : Nat, i < ns.length + 1 → (⟨(rd_T43 l (i : Int)).f0, 0, 0, if (i : Int) ∈ u' then 1 else (rd_T43 l (i : Int)).f3⟩ : S43) = rd_T43 ns' (i : Int) := fun i hi => by rw [← hP, dn_rd l u' hi]
  have hdis : ∀ k ∈ w, k ∉ u' := fun k z z2 => (List.nodup_append.1 hn).2.2 k z k z2 rfl
  -- the new node
  have hnew : (⟨(rd_T43 l (ns.length : Int)).f0, 0, 0, (rd_T43 l (ns.length : Int)).f3⟩ : S43) = ⟨K, 0, 0, 1⟩ := by
    have := hrd ns.length (by omega)
    rw [if_neg hmu, h6 ns.length (by omega), if_neg hmw, rd_app2] at this
    exact this
  have hf3 : (rd_T43 l (ns.length : Int)).f3 = 1 := by have := congrArg S43.f3 hnew; exact this
  have hf0 : (rd_T43 l (ns.length : Int)).f0 = K := by have := congrArg S43.f0 hnew; exact this
  -- the ones that close
  have hw : ∀ e ∈ w.map (en l), e = ((ns.length + 1 : Nat) : Int) := by
    intro e z
    obtain ⟨k, hkw, rfl⟩ := List.mem_map.1 z
    obtain ⟨k0, k1⟩ := hu k (List.mem_append_left _ hkw)
    have hkn : ((k.toNat : Nat) : Int) = k := Int.toNat_of_nonneg k0
    have := hrd k.toNat (by omega)
    rw [h6 k.toNat (by omega), hkn, if_neg (hdis k hkw), if_pos hkw] at this
    have := congrArg S43.f3 this
    unfold en
    simp only at this
    omega
  have hmap : (w ++ u').map (en l) = w.map (en l) ++ u'.map (en l) := List.map_append
  obtain ⟨c1, c2⟩ := cl_split hw (fun e z => (he e z).1)
  have hend : ∀ e ∈ (w ++ u').map (en l), (ns.length : Int) < e ∧ e ≤ (l.length : Int) := by
    intro e z
    rw [hmap] at z
    rcases List.mem_append.1 z with z | z
    · have := hw e z; omega
    · have := he e z; omega
  have hokn := hok ns.length (by omega)
  refine ⟨hlen, ?_, hok, hend, ?_, ?_, ?_, hroot⟩
  · refine ext43 (dn_len _ _ _) (fun i hi => ?_)
    rw [dn_len] at hi
    rw [dn_rd l _ hi]
    have e := hrd i (by omega)
    rw [h6 i (by omega), rd_app1 _ _ hi] at e
    obtain ⟨o1, o2, o3, o4⟩ := ho i hi
    by_cases q : (i : Int) ∈ w
    · rw [if_pos q] at e
      have e0 := congrArg S43.f0 e
      rw [if_pos (List.mem_append_left _ q)]
      exact s43_eq e0 o1.symm o2.symm (h1 _ (List.mem_append_left _ q)).symm
    · rw [if_neg q] at e
      by_cases q2 : (i : Int) ∈ u'
      · rw [if_pos q2] at e
        rw [if_pos (List.mem_append_right _ q2)]
        exact e
      · rw [if_neg q2] at e
        rw [if_neg (fun z => (List.mem_append.1 z).elim q q2)]
        exact e
  · rw [hmap, List.pairwise_append]
    refine ⟨?_, hs, fun x hx y hy => ?_⟩
    · rw [List.eq_replicate_of_mem hw, List.pairwise_replicate]
      exact Or.inr (Int.le_refl _)
    · have := hw x hx
      have := (he y hy).1
      omega
  · refine run_in hokn.2.2.2 (by omega) ?_ ?_
    · rw [pops_all (fun e z => (hend e z).1)]
      cases hq : (w ++ u').map (en l) with
      | nil => show _ ≤ (l.length : Int) - _; omega
      | cons e t =>
        show _ ≤ e - _
        have := (hend e (by rw [hq]; exact List.mem_cons_self)).1
        omega
    · rw [pops_all (fun e z => (hend e z).1), hf3, hcast, run_pops (s' := u'.map (en l))]
      · exact hr
      · rw [pops_all (fun e z => (he e z).1), ← c2, hmap]
        simp only [pops, if_true]
  · unfold skn
    rw [hT, if_neg (by omega), nmB_nm hokn.2.2.1, hf0]
    congr 1
    rw [hcast]
    rcases hX with ⟨rfl, rfl, rfl⟩ | ⟨g, rfl, rfl⟩
    · simp only [skf]
      rw [List.append_nil, List.length_map, List.append_nil]
    · rw [skf_skn, hmap, c1, c2, List.length_map]
      congr 1
      have hgap : gapB l ((ns.length + 1 : Nat) : Int) = [32] := by
        unfold gapB
        rw [if_pos]
        refine ⟨by omega, ?_⟩
        rw [show ((ns.length + 1 : Nat) : Int) - 1 = (ns.length : Int) by omega]
        exact hf3
      rw [hgap]
      rfl
theorem sketch_draw (s : ByteArray) (hs : s.size ≤ 1099511627776) : ∀ (d a : Nat) (u : List Int) (ns l : List S43) (p : Int), a ≤ s.size → (∀ k ∈ u, 0 ≤ k ∧ k < ns.length) → u.Nodup → (∀ i : Nat, i < ns.length → Ok (rd_T43 ns (i : Int))) → (∀ k ∈ u, (rd_T43 ns k).f3 = 1) →
    (u = [] → ns = []) → (u ≠ [] → u.getLast? = some 0) → dgo s d a u.reverse ns = (l, 0, p) → p = 0 ∧ ∃ f, Drawn s a u ns l f
  | 0, a, u, ns, l, p, ha, hk, hn, ho, h1, hu, hg, h => by
    have := congrArg (fun q : List S43 × Int × Int => q.2.1) h
    simp [dgo] at this
  | d + 1, a, u, ns, l, p, ha, hk, hn, ho, h1, hu, hg, h => by
    obtain ⟨K, M, hKM⟩ : ∃ (K : Int) (M : Nat), lgo (s.extract a s.size) = (K, (M : Int)) := by
      have hsz : (s.extract a s.size).size = s.size - a := ex_size _ (Nat.le_refl _)
      have hL := lgo_is (t := s.extract a s.size) (by rw [hsz]; omega)
      refine ⟨(lgo (s.extract a s.size)).1, (lgo (s.extract a s.size)).2.toNat, Prod.ext rfl ?_⟩
      exact (Int.toNat_of_nonneg hL.m0.1).symm
    rw [dgo_succ s d a _ _ hKM] at h
    by_cases cK : K < 0
    · rw [if_pos cK] at h
      have := congrArg (fun q : List S43 × Int × Int => q.2.1) h
      simp at this
    rw [if_neg cK] at h
    obtain ⟨m1, m2, m3, m4⟩ := lgo_found hs ha hKM cK
    have hcast : ((ns.length : Int) + 1) = ((ns.length + 1 : Nat) : Int) := by omega
    have hlen1 : (ns ++ [(⟨K, 0, 0, 1⟩ : S43)]).length = ns.length + 1 := by simp
    have hmem : (ns.length : Int) ∉ u := fun z => by have := (hk _ z).2; omega
    have hok1 : ∀ i : Nat, i < ns.length + 1 → Ok (rd_T43 (ns ++ [(⟨K, 0, 0, 1⟩ : S43)]) (i : Int)) := by
      intro i hi
      by_cases e : i < ns.length
      · rw [rd_app1 _ _ e]; exact ho i e
      · obtain rfl : i = ns.length := by omega
        rw [rd_app2]
        exact ⟨rfl, rfl, by show 0 ≤ K; omega, m1⟩
    by_cases c : a + M < s.size ∧ bt s ((a + M : Nat) : Int) = 40
    · rw [if_pos c, show u.reverse ++ [(ns.length : Int)] = ((ns.length : Int) :: u).reverse by simp] at h
      obtain ⟨r, hr⟩ := (T_at (c := 40)).1 c
      obtain ⟨hp, f, D⟩ := sketch_draw s hs d (a + M + 1) ((ns.length : Int) :: u) (ns ++ [⟨K, 0, 0, 1⟩]) l p (by omega) (fun k hk' => by
          rw [hlen1]
          rcases List.mem_cons.1 hk' with rfl | hk'
          · omega
          · have := hk k hk'; omega) (List.nodup_cons.2 ⟨hmem, hn⟩) (fun i hi => hok1 i (by rw [hlen1] at hi; exact hi)) (fun k hk' => by
          rcases List.mem_cons.1 hk' with rfl | hk'
          · rw [rd_app2]
          · obtain ⟨q0, q1⟩ := hk k hk'
            have := rd_app1 ns (⟨K, 0, 0, 1⟩ : S43) (i := k.toNat) (by omega)
            rw [Int.toNat_of_nonneg q0] at this
            rw [this]; exact h1 k hk') (fun z => by cases z) (fun _ => by
          cases u with
          | nil => rw [hu rfl]; rfl
          | cons k u => rw [List.getLast?_cons_cons]; exact hg (by simp)) h
      have dl := D.len
      have dd := D.dn
      have de := D.ends
      have ds := D.srt
      have dr := D.run
      have dt := D.txt
      rw [hlen1] at dl dd de dr dt
      rw [dn_succ] at dd
      obtain ⟨e1, e2⟩ := List.append_inj' dd rfl
      have e3 : (rd_T43 l (ns.length : Int)).f0 = K := by
        have := congrArg (fun q : List S43 => (rd_T43 q 0).f0) e2
        simpa [rd_T43] using this
      have e4 : en l (ns.length : Int) = (ns.length : Int) + (rd_T43 l (ns.length : Int)).f3 := rfl
      rw [List.map_cons] at de ds dr dt
      obtain ⟨s1, s2⟩ := List.pairwise_cons.1 ds
      have d0 := de _ List.mem_cons_self
      rw [e4] at d0 s1 dr dt
      have hgt : ∀ e ∈ u.map (en l), (ns.length : Int) < e ∧ e ≤ (l.length : Int) := fun e he => by
        have := de e (List.mem_cons_of_mem _ he); omega
      have hokn := D.ok ns.length (by omega)
      refine ⟨hp, f + 1, ⟨by omega, ?_, D.ok, hgt, s2, ?_, ?_, D.root⟩⟩
      · refine Eq.trans (dn_cong l (fun i hi => ?_)) e1
        have : (i : Int) ≠ (ns.length : Int) := by omega
        simp [this]
      · refine run_in hokn.2.2.2 (by omega) ?_ ?_
        · rw [pops_all (fun e he => (hgt e he).1)]
          cases hq : u.map (en l) with
          | nil => show _ ≤ (l.length : Int) - _; omega
          | cons e t =>
            show _ ≤ e - _
            have := s1 e (by rw [hq]; exact List.mem_cons_self)
            omega
        · rw [pops_all (fun e he => (hgt e he).1), hcast]
          exact dr
      · unfold skn
        rw [if_pos (by omega), hcast, skf_skn, cl_all (fun e he => by
          rcases List.mem_cons.1 he with rfl | he
          · exact d0.1
          · exact (de e (List.mem_cons_of_mem _ he)).1), pops_all (fun e he => by
          rcases List.mem_cons.1 he with rfl | he
          · exact d0.1
          · exact (de e (List.mem_cons_of_mem _ he)).1)]
        have hgap : gapB l ((ns.length + 1 : Nat) : Int) = [] := by
          unfold gapB
          rw [if_neg]
          rintro ⟨_, z⟩
          rw [show ((ns.length + 1 : Nat) : Int) - 1 = (ns.length : Int) by omega] at z
          omega
        rw [hgap, List.nil_append, List.nil_append, ← dt, m4, nmB_nm hokn.2.2.1, e3, hr, T_next hr]
    · rw [if_neg c] at h
      obtain ⟨w, u', ns', g1, g2, g3, g4, g5, g6⟩ := cls_bw s s.size (a + M) u (ns ++ [⟨K, 0, 0, 1⟩]) m3 (fun k hk' => by rw [hlen1]; have := hk k hk'; omega) hn
      rw [g1] at h
      rw [hlen1] at g5 g6
      subst g2
      have hw : ∀ k ∈ w, 0 ≤ k ∧ k < ns.length := fun k z => hk k (List.mem_append_left _ z)
      have hok' : ∀ i : Nat, i < ns.length + 1 → Ok (rd_T43 ns' (i : Int)) := by
        intro i hi
        obtain ⟨o1, o2, o3, o4⟩ := hok1 i hi
        rw [g6 i hi]
        split
        · exact ⟨o1, o2, o3, o4⟩
        · exact ⟨o1, o2, o3, o4⟩
      have hT : T s a = (nm K.toNat).data.toList ++ (List.replicate w.length 41 ++ T s (a + M + w.length)) := by rw [m4, ← g3]
      unfold dend at h
      by_cases z : u'.reverse = []
      · rw [if_pos z] at h
        have z2 : u' = [] := by simpa using z
        subst z2
        by_cases y : a + M + w.length = s.size
        · rw [if_pos y] at h
          obtain rfl : ns' = l := congrArg Prod.fst h
          have hp : p = 0 := (congrArg (fun q : List S43 × Int × Int => q.2.2) h).symm
          refine ⟨hp, 0, drawn_leaf (ns' := ns') (X := []) cK hk hn ho h1 (by omega) g6 ?_ (fun i hi => hok' i (by omega)) (fun e he => by cases he) List.Pairwise.nil rfl ?_ (by rw [hT, T_end (by omega)]) (Or.inl ⟨rfl, rfl, rfl⟩)⟩
          · refine ext43 (by rw [dn_len]; omega) (fun i hi => ?_)
            rw [dn_len] at hi
            rw [dn_rd _ _ hi, if_neg (by simp)]
            obtain ⟨o1, o2, o3, o4⟩ := hok' i hi
            exact s43_eq rfl o1.symm o2.symm rfl
          · have e0 := g6 0 (by omega)
            by_cases q : w = []
            · have hns : ns = [] := hu (by rw [q]; rfl)
              subst hns
              rw [q, if_neg (by simp)] at e0
              rw [show (0 : Int) = ((0 : Nat) : Int) from rfl, e0]
              have := rd_app2 [] (⟨K, 0, 0, 1⟩ : S43)
              rw [show (([] : List S43).length : Int) = ((0 : Nat) : Int) from rfl] at this
              rw [this, g5]
              rfl
            · have hg0 := hg (by simpa using q)
              rw [List.append_nil] at hg0
              have h0 : (0 : Int) ∈ w := List.mem_of_getLast? hg0
              rw [if_pos (show ((0 : Nat) : Int) ∈ w from h0)] at e0
              rw [show (0 : Int) = ((0 : Nat) : Int) from rfl, e0, g5]
              simp
        · rw [if_neg y] at h
          have := congrArg (fun q : List S43 × Int × Int => q.2.1) h
          simp at this
      · rw [if_neg z] at h
        have z2 : u' ≠ [] := fun e => z (by rw [e]; rfl)
        by_cases y : a + M + w.length < s.size ∧ bt s ((a + M + w.length : Nat) : Int) = 32
        · rw [if_pos y] at h
          obtain ⟨r, hr⟩ := (T_at (c := 32)).1 y
          have hdis : ∀ k ∈ u', k ∉ w := fun k z z2 => (List.nodup_append.1 hn).2.2 k z2 k z rfl
          obtain ⟨hp, f, D⟩ := sketch_draw s hs d (a + M + w.length + 1) u' ns' l p (by omega) (fun k hk' => by
              rw [g5]; have := hk k (List.mem_append_right _ hk'); omega) (List.nodup_append.1 hn).2.1 (fun i hi => hok' i (by rw [g5] at hi; exact hi)) (fun k hk' => by
              obtain ⟨q0, q1⟩ := hk k (List.mem_append_right _ hk')
              have := g6 k.toNat (by omega)
              rw [rd_app1 _ _ (by omega), Int.toNat_of_nonneg q0, if_neg (hdis k hk')] at this
              rw [this]; exact h1 k (List.mem_append_right _ hk')) (fun e => absurd e z2) (fun _ => by
              have := hg (by simp [z2])
              rw [List.getLast?_append] at this
              cases hq : u'.getLast? with
              | none => exact absurd (List.getLast?_eq_none_iff.1 hq) z2
              | some v => rw [hq] at this; exact this) h
          have dl := D.len
          have dd := D.dn
          have de := D.ends
          have dr := D.run
          have dt := D.txt
          rw [g5] at dl dd de dr dt
          exact ⟨hp, f + 1, drawn_leaf (ns' := ns') cK hk hn ho h1 (by omega) g6 dd D.ok de D.srt dr D.root hT (Or.inr ⟨f, rfl, by rw [hr, ← T_next hr, dt]⟩)⟩
        · rw [if_neg y] at h
          have := congrArg (fun q : List S43 × Int × Int => q.2.1) h
          simp at this
end Go.Proofs.YtodldpdnhcafpaaDoor.Q
