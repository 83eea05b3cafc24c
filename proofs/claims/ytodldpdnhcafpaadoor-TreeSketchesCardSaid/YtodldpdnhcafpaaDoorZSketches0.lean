/- Texts of the proof of one law (Sketches), part 0: functions printed as Lean functions with their walks, and what is proved of them. Conditions: those of each theorem. -/
import Derived.Test.YtodldpdnhcafpaaDoorWMore
import Derived.Deep.MidRow
import Derived.Test.YtodldpdnhcafpaaDoorProg
import Derived.Test.YtodldpdnhcafpaaDoorWWords
import Derived.Below
import Derived.Deep.Draws
import Derived.Deep.AppendLies
import Derived.Maps.AppendAt
import Derived.OwnWalk
import Derived.Laws.BytesArg
import Derived.Laws.MakeOwn
import Derived.Laws.OwnMore
import Derived.Deep.OwnRows
import Derived.Tactics
import Derived.Lib.ConvBytes
import Derived.Laws.Slices
import Derived.WalkKit
import Derived.KernelRfl
import Derived.RowKit3
import Derived.Deep.LoopGhost
import Derived.Deep.QuietTactic
import Derived.BigQuiet
import Derived.WideLaws
import Derived.Deep.DeepCutAuto
import Derived.Deep.CutBlock
import Derived.Deep.RegionHeld3
import Derived.Laws.Rows
import Derived.Lib.AppendStr
import Derived.ArgAppend
import Derived.Laws.IdiomCopy
import Derived.OrdersHeld
import Derived.Laws.BitsLemmas
import Derived.WalkMore
import Derived.RowKit
import Derived.Test.YtodldpdnhcafpaaDoorWLast
import Derived.Test.YtodldpdnhcafpaaDoorWTab
import Derived.Test.YtodldpdnhcafpaaDoorWFour
import Derived.Test.YtodldpdnhcafpaaDoorWQPut
import Derived.Test.YtodldpdnhcafpaaDoorWApart
import Derived.Test.YtodldpdnhcafpaaDoorWArr
import Derived.Test.YtodldpdnhcafpaaDoorWZeros
import Derived.Test.YtodldpdnhcafpaaDoorWFoot
import Derived.Test.YtodldpdnhcafpaaDoorWKept
import Derived.Test.YtodldpdnhcafpaaDoorWShare
import Derived.Test.YtodldpdnhcafpaaDoorWN
import Derived.Test.YtodldpdnhcafpaaDoorWFootNe
import Derived.Test.YtodldpdnhcafpaaDoorWAt
import Derived.Test.YtodldpdnhcafpaaDoorWEqStruct
import Derived.Test.YtodldpdnhcafpaaDoorWRepsOne
import Derived.Test.YtodldpdnhcafpaaDoorWInv
import Derived.Test.YtodldpdnhcafpaaDoorWInvWords
import Derived.Test.YtodldpdnhcafpaaDoorWGuard
import Derived.Test.YtodldpdnhcafpaaDoorWNEv
import Derived.Shelf.Strings.Builder1
import Derived.Shelf.Strings.BuilderF
import Derived.Shelf.Strings.BuilderK
-- made by wip/mkgtab.py: the table of the kinds' names, in its two package variables: what their cells hold
namespace Go.Proofs.YtodldpdnhcafpaaDoor.F
open Go.RowKit Go.Proofs.YtodldpdnhcafpaaDoorW.PrintWords Go.Proofs.YtodldpdnhcafpaaDoorW.PrintLast Go.Proofs.YtodldpdnhcafpaaDoorW.PrintMore
set_option linter.unusedVariables false
set_option linter.unusedSimpArgs false
/-- The kinds' names. -/
def tabG0 : List ByteArray := [⟨#[78, 111, 110, 101]⟩, ⟨#[76, 105, 115, 116]⟩, ⟨#[70, 105, 108, 101]⟩, ⟨#[73, 109, 112, 111, 114, 116]⟩, ⟨#[73, 109, 112, 111, 114, 116, 83, 112, 101, 99]⟩, ⟨#[67, 111, 110, 115, 116]⟩, ⟨#[86, 97, 114]⟩, ⟨#[84, 121, 112, 101, 115]⟩, ⟨#[67, 111, 110, 115, 116, 83, 112, 101, 99]⟩, ⟨#[86, 97, 114, 83, 112, 101, 99]⟩, ⟨#[84, 121, 112, 101, 83, 112, 101, 99]⟩, ⟨#[70, 117, 110, 99]⟩, ⟨#[82, 101, 99, 118]⟩, ⟨#[83, 105, 103]⟩, ⟨#[80, 97, 114, 97, 109]⟩, ⟨#[83, 116, 114, 117, 99, 116]⟩, ⟨#[70, 105, 101, 108, 100]⟩, ⟨#[69, 109, 98, 101, 100]⟩, ⟨#[73, 110, 116, 101, 114, 102, 97, 99, 101]⟩, ⟨#[77, 101, 116, 104, 111, 100]⟩, ⟨#[83, 104, 97, 112, 101]⟩, ⟨#[83, 116, 97, 114]⟩, ⟨#[83, 108, 105, 99, 101, 79, 102]⟩, ⟨#[77, 97, 112, 79, 102]⟩, ⟨#[70, 117, 110, 99, 79, 102]⟩, ⟨#[80, 97, 114, 101, 110]⟩, ⟨#[83, 101, 108, 101, 99, 116]⟩, ⟨#[66, 108, 111, 99, 107]⟩, ⟨#[73, 102]⟩, ⟨#[83, 119, 105, 116, 99, 104]⟩, ⟨#[77, 97, 116, 99, 104]⟩, ⟨#[67, 97, 115, 101]⟩, ⟨#[68, 101, 102, 97, 117, 108, 116]⟩, ⟨#[70, 111, 114]⟩, ⟨#[82, 97, 110, 103, 101]⟩, ⟨#[76, 97, 98, 101, 108]⟩, ⟨#[82, 101, 116, 117, 114, 110]⟩, ⟨#[66, 114, 101, 97, 107]⟩, ⟨#[67, 111, 110, 116, 105, 110, 117, 101]⟩, ⟨#[70, 97, 108, 108]⟩, ⟨#[69, 109, 112, 116, 121]⟩, ⟨#[68, 111]⟩, ⟨#[83, 116, 101, 112]⟩, ⟨#[65, 115, 115, 105, 103, 110]⟩, ⟨#[68, 101, 102, 105, 110, 101]⟩, ⟨#[78, 97, 109, 101]⟩, ⟨#[78, 117, 109, 98, 101, 114]⟩, ⟨#[67, 104, 97, 114]⟩, ⟨#[84, 101, 120, 116]⟩, ⟨#[66, 105, 110, 97, 114, 121]⟩, ⟨#[83, 105, 103, 110]⟩, ⟨#[73, 110, 100, 101, 120]⟩, ⟨#[83, 108, 105, 99, 101]⟩, ⟨#[65, 115, 115, 101, 114, 116]⟩, ⟨#[67, 97, 108, 108]⟩, ⟨#[70, 117, 110, 99, 76, 105, 116]⟩, ⟨#[67, 111, 109, 112, 111, 115, 105, 116, 101]⟩, ⟨#[80, 97, 105, 114]⟩]
abbrev tabG1 : List ByteArray := tabG0
theorem tab_len : tabG0.length = 58 := rfl
/-- Both variables hold them. -/
structure SG (w : World) : Prop where
  g0 : Kd.string.C w (some ⟨0, 0, none⟩) 58 tabG0
  g1 : Kd.string.C w (some ⟨1, 0, none⟩) 58 tabG1
theorem SG.below {w w' : World} (h : SG w) (hb : Below w.heap.size w w') : SG w' := ⟨Kd.C_below h.g0 hb, Kd.C_below h.g1 hb⟩
end Go.Proofs.YtodldpdnhcafpaaDoor.F

-- A text of this session's own program (wip/myprint.sh over a changed print tool): functions and their walks
namespace Go.Proofs.YtodldpdnhcafpaaDoor.F
open Go.RowKit Go.Proofs.YtodldpdnhcafpaaDoorW.PrintWords Go.Proofs.YtodldpdnhcafpaaDoorW.PrintLast Go.Proofs.YtodldpdnhcafpaaDoorW.PrintMore
attribute [local go_sem] max2_int min2_int max_two min_two max_three min_three max_four min_four   -- for this text's walks alone
set_option linter.unusedVariables false
set_option linter.unusedSimpArgs false



def errW : Option Int → Value
  | none => .nilIface
  | some c => .iface 0 (.int .i64 c)
theorem errW_none : errW none = .nilIface := rfl
theorem errW_some (c : Int) : errW (some c) = .iface 0 (.int .i64 c) := rfl

theorem info3 : (Tryd.prog.info? 3).map (fun i => (i.zero, i.size, i.bytes)) = some (some (.int .i64 0), 1, 8) := by kernel_rfl
theorem info5 : (Tryd.prog.info? 5).map (fun i => (i.zero, i.size, i.bytes)) = some (some (.int .u8 0), 1, 1) := by kernel_rfl
theorem info43 : (Tryd.prog.info? 43).map (fun i => (i.zero, i.size, i.bytes)) = some (some (.agg #[(.int .u8 0), (.int .i64 0), (.int .i64 0), (.int .i64 0)]), 4, 32) := by kernel_rfl
theorem info68 : (Tryd.prog.info? 68).map (fun i => (i.zero, i.size, i.bytes)) = some (some (.agg #[(.int .u8 0), (.int .i64 0), (.int .i64 0)]), 3, 24) := by kernel_rfl
-- the values' own types
/-! #### struct type 43 -/
structure S43 where
  f0 : Int
  f1 : Int
  f2 : Int
  f3 : Int
def z43 : S43 := ⟨(0 : Int), (0 : Int), (0 : Int), (0 : Int)⟩
def k43 : Kd S43 := Kd.iso (Kd.pair (Kd.int .u8) (Kd.pair (Kd.int .i64) (Kd.pair (Kd.int .i64) (Kd.int .i64)))) (fun x : S43 => (x.f0, x.f1, x.f2, x.f3))
theorem k43_open {w : World} {x : S43} {cs : List Value} (h : k43.K w x cs) : cs = [.int .u8 x.f0, .int .i64 x.f1, .int .i64 x.f2, .int .i64 x.f3] := by
  obtain ⟨_, _, rfl, rfl, ⟨_, _, rfl, rfl, ⟨_, _, rfl, rfl, rfl⟩⟩⟩ := h
  exact rfl
theorem k43_mk (w : World) (x : S43)  : k43.K w x [.int .u8 x.f0, .int .i64 x.f1, .int .i64 x.f2, .int .i64 x.f3] := ⟨[.int .u8 x.f0], [.int .i64 x.f1, .int .i64 x.f2, .int .i64 x.f3], rfl, rfl, ⟨[.int .i64 x.f1], [.int .i64 x.f2, .int .i64 x.f3], rfl, rfl, ⟨[.int .i64 x.f2], [.int .i64 x.f3], rfl, rfl, rfl⟩⟩⟩
def rd_T43 (xs : List S43) (i : Int) : S43 := xs.getD i.toNat z43
theorem at_T43 {w : World} {A : Option Addr} {n : Nat} {xs : List S43} (h : Kd.C k43 w A n xs) (i : Int) (h0 : 0 ≤ i) (h1 : i < n) : ∃ ad , A = some ad ∧ w.cell? (ad.add (i.toNat * 4)) = some (.int .u8 (rd_T43 xs i).f0) ∧ w.cell? ⟨(ad.add (i.toNat * 4)).block, (ad.add (i.toNat * 4)).off + 1, none⟩ = some (.int .i64 (rd_T43 xs i).f1) ∧ w.cell? ⟨(ad.add (i.toNat * 4)).block, (ad.add (i.toNat * 4)).off + 2, none⟩ = some (.int .i64 (rd_T43 xs i).f2) ∧ w.cell? ⟨(ad.add (i.toNat * 4)).block, (ad.add (i.toNat * 4)).off + 3, none⟩ = some (.int .i64 (rd_T43 xs i).f3) := by
  obtain ⟨ad, c, e, _, hK, hc0⟩ := Kd.C_get h z43 i h0 h1
  have hc : ∀ j u, c[j]? = some u → w.cell? (ad.add (i.toNat * 4 + j)) = some u := hc0
  obtain rfl := k43_open hK
  exact ⟨ad, e, hc 0 _ rfl, by rw [← add_field _ _ 1 (by omega)]; exact hc 1 _ rfl, by rw [← add_field _ _ 2 (by omega)]; exact hc 2 _ rfl, by rw [← add_field _ _ 3 (by omega)]; exact hc 3 _ rfl⟩

/-! #### struct type 68 -/
structure S68 where
  f0 : Int
  f1 : Int
  f2 : Int
def z68 : S68 := ⟨(0 : Int), (0 : Int), (0 : Int)⟩
def k68 : Kd S68 := Kd.iso (Kd.pair (Kd.int .u8) (Kd.pair (Kd.int .i64) (Kd.int .i64))) (fun x : S68 => (x.f0, x.f1, x.f2))
theorem k68_open {w : World} {x : S68} {cs : List Value} (h : k68.K w x cs) : cs = [.int .u8 x.f0, .int .i64 x.f1, .int .i64 x.f2] := by
  obtain ⟨_, _, rfl, rfl, ⟨_, _, rfl, rfl, rfl⟩⟩ := h
  exact rfl
theorem k68_mk (w : World) (x : S68)  : k68.K w x [.int .u8 x.f0, .int .i64 x.f1, .int .i64 x.f2] := ⟨[.int .u8 x.f0], [.int .i64 x.f1, .int .i64 x.f2], rfl, rfl, ⟨[.int .i64 x.f1], [.int .i64 x.f2], rfl, rfl, rfl⟩⟩
def rd_T68 (xs : List S68) (i : Int) : S68 := xs.getD i.toNat z68
theorem at_T68 {w : World} {A : Option Addr} {n : Nat} {xs : List S68} (h : Kd.C k68 w A n xs) (i : Int) (h0 : 0 ≤ i) (h1 : i < n) : ∃ ad , A = some ad ∧ w.cell? (ad.add (i.toNat * 3)) = some (.int .u8 (rd_T68 xs i).f0) ∧ w.cell? ⟨(ad.add (i.toNat * 3)).block, (ad.add (i.toNat * 3)).off + 1, none⟩ = some (.int .i64 (rd_T68 xs i).f1) ∧ w.cell? ⟨(ad.add (i.toNat * 3)).block, (ad.add (i.toNat * 3)).off + 2, none⟩ = some (.int .i64 (rd_T68 xs i).f2) := by
  obtain ⟨ad, c, e, _, hK, hc0⟩ := Kd.C_get h z68 i h0 h1
  have hc : ∀ j u, c[j]? = some u → w.cell? (ad.add (i.toNat * 3 + j)) = some u := hc0
  obtain rfl := k68_open hK
  exact ⟨ad, e, hc 0 _ rfl, by rw [← add_field _ _ 1 (by omega)]; exact hc 1 _ rfl, by rw [← add_field _ _ 2 (by omega)]; exact hc 2 _ rfl⟩

/-! #### struct type 111 -/
/-! #### struct type 113 -/
/-! #### struct type 115 -/
end Go.Proofs.YtodldpdnhcafpaaDoor.F

-- A text of this session's own program (wip/myprint.sh over a changed print tool): functions and their walks
namespace Go.Proofs.YtodldpdnhcafpaaDoor.F
open Go.RowKit Go.Proofs.YtodldpdnhcafpaaDoorW.PrintWords Go.Proofs.YtodldpdnhcafpaaDoorW.PrintLast Go.Proofs.YtodldpdnhcafpaaDoorW.PrintMore
attribute [local go_sem] max2_int min2_int max_two min_two max_three min_three max_four min_four   -- for this text's walks alone
set_option linter.unusedVariables false
set_option linter.unusedSimpArgs false

/-! ### tree_sized: function 60 -/
def tree_sized.f (l0_0 : List (S43)) (a1 : Int) : Option (Bool) := if a1 ≥ 0 then (if a1 < (l0_0.length : Int) then (if 0 ≤ a1 then (if ((rd_T43 l0_0 a1).f3) ≥ 1 then (some (decide (((rd_T43 l0_0 a1).f3) ≤ (wrap64 ((l0_0.length : Int) - a1))))) else (some false)) else (none)) else (some false)) else (some false)
end Go.Proofs.YtodldpdnhcafpaaDoor.F

-- A text of this session's own program (wip/myprint.sh over a changed print tool): functions and their walks
namespace Go.Proofs.YtodldpdnhcafpaaDoor.F
open Go.RowKit Go.Proofs.YtodldpdnhcafpaaDoorW.PrintWords Go.Proofs.YtodldpdnhcafpaaDoorW.PrintLast Go.Proofs.YtodldpdnhcafpaaDoorW.PrintMore
attribute [local go_sem] max2_int min2_int max_two min_two max_three min_three max_four min_four   -- for this text's walks alone
set_option linter.unusedVariables false
set_option linter.unusedSimpArgs false

/-! ### monikerref4_Kids: function 22 -/
mutual
def monikerref4_Kids.j0 : Nat → Int → Bool → List (S43) → Option (List Int × Bool)
  | 0, _, _, _ => none
  | k + 1, x1, x17, x186000 => if x17 = true then (some (([] : List Int), false)) else (if 0 ≤ x1 then (if x1 < (x186000.length : Int) then (if ((rd_T43 x186000 x1).f3) < 1 then (monikerref4_Kids.j1 k x1 ((rd_T43 x186000 x1).f3) true x186000) else (monikerref4_Kids.j1 k x1 ((rd_T43 x186000 x1).f3) (decide (((rd_T43 x186000 x1).f3) > (wrap64 ((x186000.length : Int) - x1)))) x186000)) else (none)) else (none))
def monikerref4_Kids.j1 : Nat → Int → Int → Bool → List (S43) → Option (List Int × Bool)
  | 0, _, _, _, _ => none
  | k + 1, x1, x6, x34, x186000 => if x34 = true then (some (([] : List Int), false)) else (monikerref4_Kids.l0 k x1 x6 ([] : List Int) (wrap64 (x1 + 1)) x186000)
def monikerref4_Kids.l0 : Nat → Int → Int → List Int → Int → List (S43) → Option (List Int × Bool)
  | 0, _, _, _, _, _ => none
  | k + 1, x1, x6, x7, x8, x186000 => if x8 < (wrap64 (x1 + x6)) then (if x7.length < 17592186044416 then (if 0 ≤ x8 then (if x8 < (x186000.length : Int) then (if ((rd_T43 x186000 x8).f3) < 1 then (some (([] : List Int), false)) else (if ((rd_T43 x186000 x8).f3) > (wrap64 ((wrap64 (x1 + x6)) - x8)) then (some (([] : List Int), false)) else (monikerref4_Kids.l0 k x1 x6 (x7 ++ [x8]) (wrap64 (x8 + ((rd_T43 x186000 x8).f3))) x186000))) else (none)) else (none)) else (none)) else (some (x7, true))
end
def monikerref4_Kids.f (k : Nat) (l0_0 : List (S43)) (a1 : Int) : Option (List Int × Bool) := if a1 < 0 then (monikerref4_Kids.j0 k a1 true l0_0) else (monikerref4_Kids.j0 k a1 (decide (a1 ≥ (l0_0.length : Int))) l0_0)
set_option maxHeartbeats 8000000 in
set_option maxRecDepth 100000 in
theorem monikerref4_Kids.calls (k : Nat) (A0_0 : Option Addr) (c0_0 : Nat) (l0_0 : List (S43)) (a1 : Int) (r1 : List Int) (r2 : Bool) (w : World) (hr0_0 : Kd.C k43 w A0_0 l0_0.length l0_0) (hc0_0 : l0_0.length ≤ c0_0) (h : monikerref4_Kids.f k l0_0 a1 = some (r1, r2)) :
    Calls Tryd.prog 22 #[.agg #[.slice A0_0 l0_0.length c0_0], .int .i64 a1] w fun e w' => ∃ v0_ : Value, e = .returned (.tuple #[v0_, .bool r2]) ∧ Kd.R (Kd.int .i64) 3 w' w.heap.size (fun _ => True) v0_ r1 ∧ Below w.heap.size w w' := by
  have hu24 := Tryd.underlying24
  have HR0_0 := Aside0.mk hr0_0
  have HC0_0 := Aside0.mk hc0_0
  clear hr0_0 hc0_0
  have HB := Aside0.mk (Below.refl w.heap.size w)
  have H : (if a1 < 0 then (monikerref4_Kids.j0 k a1 true l0_0) else (monikerref4_Kids.j0 k a1 (decide (a1 ≥ (l0_0.length : Int))) l0_0)) = some (r1, r2) := h
  clear h
  have HC3 := Aside0.mk H
  clear H
  go_enter Tryd.func22, Tryd.ntmps22
  go_upto_region 1 with (first | ((with_reducible refine gate_dst (N := 2) rfl ?_); (try (refine gate_guard (by rfl) ?_; dsimp only)); refine box_event ?hg (N := 2) ?hd (cs := #[.slice A0_0 l0_0.length c0_0]) (t := 24) ?hr ?_; (case hd => rfl); (case hg => rfl); (case hr => first | (go_simp; done) | (go_simp; rfl)); intro gb185 hg w4 hbox hb; have n0_ := Aside0.mk (below_step (by repeat (first | (with_reducible first | exact HB.out | apply below_alloc | apply pw_below_drewN | apply below_drew1) | exact HB.out)) hb); have n1_ := Aside0.mk (hbox); have n2_ := Aside0.mk ((by rw [hg]; exact (below_size (by repeat (first | (with_reducible first | exact HB.out | apply below_alloc | apply pw_below_drewN | apply below_drew1) | exact HB.out))) : w.heap.size ≤ gb185)); have n3_ := Aside0.mk ((by rw [hg]; exact (below_size (by repeat (first | (with_reducible first | exact HB.out | apply below_alloc | apply pw_below_drewN | apply below_drew1) | exact HB.out))) : w.heap.size ≤ gb185)); clear HB; have HB := n0_; have BK185 := n1_; have GW185 := n2_; have GE185 := n3_; clear n0_ n1_ n2_ n3_; clear hb hbox hg))
  (try simp only [Act.put, List.setIfInBounds_toArray, List.set_cons_zero, List.set_cons_succ])
  go_cut [17] (fun v17 wc => ∃ (kq : Nat) (x17_2 : Bool), v17 = .bool x17_2 ∧ Aside0 (monikerref4_Kids.j0 kq a1 x17_2 l0_0 = some (r1, r2)) ∧ Aside0 (kq ≤ k) ∧ Aside0 (wc.heap[gb185]? = some (.cells #[(.slice A0_0 l0_0.length c0_0)] 24 (0, 0))) ∧ Aside0 (Below w.heap.size w wc))
  case first =>
    have H := HC3.out
    clear HC3
    by_cases c5 : a1 < 0
    · rw [if_pos c5] at H
      have c5b0 : decide (a1 < 0) = true := decide_eq_true c5
      clear c5
      (first | rw [c5b0] | (simp only [i64_w, i32_w]; rw [c5b0]) | skip)
      have H' := Aside0.mk H
      clear H
      go_wp2
      go_meet
      case rel => exact ⟨_, (true), (by first | rfl | (simp; done) | (simp [*]; done)), H', ⟨by first | omega | exact Nat.le_refl _⟩, ⟨by (with_reducible repeat (first | refine blk_drewN ?_ _ | refine blk_drew ?_ | refine blk_alloc ?_ _)); exact BK185.out⟩, ⟨by repeat (first | (with_reducible first | exact HB.out | apply below_alloc | apply pw_below_drewN | apply below_drew1 | refine below_set ?_ GE185.out) | exact HB.out)⟩⟩
    · rw [if_neg c5] at H
      have c5b0 : decide (a1 < 0) = false := decide_eq_false c5
      clear c5
      (first | rw [c5b0] | (simp only [i64_w, i32_w]; rw [c5b0]) | skip)
      have H' := Aside0.mk H
      clear H
      have hcz6_0 : w4.cell? ⟨gb185, 0, none⟩ = some (.slice A0_0 l0_0.length c0_0) := (blk_cell BK185.out 0).trans rfl
      have hfz6_0 := blk_frozen BK185.out 0
      go_wp2
      go_meet
      case rel => exact ⟨_, (decide (a1 ≥ (l0_0.length : Int))), (by first | rfl | (simp; done) | (simp [*]; done)), H', ⟨by first | omega | exact Nat.le_refl _⟩, ⟨by (with_reducible repeat (first | refine blk_drewN ?_ _ | refine blk_drew ?_ | refine blk_alloc ?_ _)); exact BK185.out⟩, ⟨by repeat (first | (with_reducible first | exact HB.out | apply below_alloc | apply pw_below_drewN | apply below_drew1 | refine below_set ?_ GE185.out) | exact HB.out)⟩⟩
  case rest =>
    clear HC3
    try clear c2
    try clear p2
    try clear c5
    try clear c5b0
    try clear hcz6_0
    try clear hfz6_0
    obtain ⟨kq, x17_2, rfl, HA, HJ2, BK185, HB⟩ := hcut
    cases kq with
    | zero => exact absurd HA.out (by simp [monikerref4_Kids.j0])
    | succ kj2 =>
      have H := HA.out
      clear HA
      simp only [monikerref4_Kids.j0] at H
      by_cases c7 : x17_2 = true
      · subst c7
        have H1 : (some (([] : List Int), false)) = some (r1, r2) := by rw [if_pos rfl] at H; exact H
        clear H
        have H := H1
        clear H1
        simp only [Option.some.injEq, Prod.mk.injEq] at H
        obtain ⟨rfl, rfl⟩ := H
        go_wp2
        go_ret2
        exact ⟨_, by first | rfl | (simp [errW_none, errW_some] <;> rfl) | (simp [*, errW_none, errW_some] <;> rfl), by first | exact Kd.R_nil _ _ _ _ _ | exact Kd.N_nil _ _ _ _ _ | exact Kd.V_nil _ _ _ _ _ | exact Kd.Q_nil _ _ _ _ _ | exact Kd.S_nil _ _ _ _ _, by repeat (first | (with_reducible first | exact HB.out | apply below_alloc | apply pw_below_drewN | apply below_drew1 | refine below_set ?_ GE185.out) | exact HB.out)⟩
      · replace c7 := Bool.eq_false_iff.mpr c7
        subst c7
        have H1 : (if 0 ≤ a1 then (if a1 < (l0_0.length : Int) then (if ((rd_T43 l0_0 a1).f3) < 1 then (monikerref4_Kids.j1 kj2 a1 ((rd_T43 l0_0 a1).f3) true l0_0) else (monikerref4_Kids.j1 kj2 a1 ((rd_T43 l0_0 a1).f3) (decide (((rd_T43 l0_0 a1).f3) > (wrap64 ((l0_0.length : Int) - a1)))) l0_0)) else (none)) else (none)) = some (r1, r2) := by rw [if_neg (show ¬ (false = true) by decide)] at H; exact H
        clear H
        have H := H1
        clear H1
        by_cases c8 : 0 ≤ a1
        · rw [if_pos c8] at H
          have c8b0 : decide (0 ≤ a1) = true := decide_eq_true c8
          clear c8
          by_cases c9 : a1 < (l0_0.length : Int)
          · rw [if_pos c9] at H
            have c9b0 : decide (a1 < (l0_0.length : Int)) = true := decide_eq_true c9
            clear c9
            have HC10 := Aside0.mk H
            clear H
            have hcz11_0 : wc.cell? ⟨gb185, 0, none⟩ = some (.slice A0_0 l0_0.length c0_0) := (blk_cell BK185.out 0).trans rfl
            have hfz11_0 := blk_frozen BK185.out 0
            have p186 : 0 ≤ (a1 : Int) := of_decide_eq_true (by first | (with_reducible assumption) | assumption)
            have q186 : a1 < (l0_0.length : Int) := of_decide_eq_true (by first | (with_reducible assumption) | assumption)
            obtain ⟨ad186, e186, hx186_0, hx186_1, hx186_2, hx186_3⟩ := at_T43 HR0_0.out a1 p186 q186
            cases e186
            replace hx186_0 := (HB.out.cell (World.block_lt_of_cell? w _ hx186_0)).trans hx186_0
            replace hx186_1 := (HB.out.cell (World.block_lt_of_cell? w _ hx186_1)).trans hx186_1
            replace hx186_2 := (HB.out.cell (World.block_lt_of_cell? w _ hx186_2)).trans hx186_2
            replace hx186_3 := (HB.out.cell (World.block_lt_of_cell? w _ hx186_3)).trans hx186_3
            replace p186 := eq_true p186
            replace q186 := eq_true q186
            go_upto_region 4 with (fail)
            go_cut [34] (fun v34 wc => ∃ (kq : Nat) (x34_9 : Bool), v34 = .bool x34_9 ∧ Aside0 (monikerref4_Kids.j1 kq a1 ((rd_T43 l0_0 a1).f3) x34_9 l0_0 = some (r1, r2)) ∧ Aside0 (kq ≤ kj2) ∧ Aside0 (wc.heap[gb185]? = some (.cells #[(.slice (some ad186) l0_0.length c0_0)] 24 (0, 0))) ∧ Aside0 (Below w.heap.size w wc))
            case first =>
              have H := HC10.out
              clear HC10
              by_cases c12 : ((rd_T43 l0_0 a1).f3) < 1
              · rw [if_pos c12] at H
                have c12b0 : decide (((rd_T43 l0_0 a1).f3) < 1) = true := decide_eq_true c12
                clear c12
                (first | rw [c12b0] | (simp only [i64_w, i32_w]; rw [c12b0]) | skip)
                have H' := Aside0.mk H
                clear H
                go_wp2
                go_meet
                case rel => exact ⟨_, (true), (by first | rfl | (simp; done) | (simp [*]; done)), H', ⟨by have := HJ2.out; first | omega | exact Nat.le_refl _⟩, ⟨by (with_reducible repeat (first | refine blk_drewN ?_ _ | refine blk_drew ?_ | refine blk_alloc ?_ _)); exact BK185.out⟩, ⟨by repeat (first | (with_reducible first | exact HB.out | apply below_alloc | apply pw_below_drewN | apply below_drew1 | refine below_set ?_ GE185.out) | exact HB.out)⟩⟩
              · rw [if_neg c12] at H
                have c12b0 : decide (((rd_T43 l0_0 a1).f3) < 1) = false := decide_eq_false c12
                clear c12
                (first | rw [c12b0] | (simp only [i64_w, i32_w]; rw [c12b0]) | skip)
                have H' := Aside0.mk H
                clear H
                have hcz13_0 : wc.cell? ⟨gb185, 0, none⟩ = some (.slice (some ad186) l0_0.length c0_0) := (blk_cell BK185.out 0).trans rfl
                have hfz13_0 := blk_frozen BK185.out 0
                go_wp2
                go_meet
                case rel => exact ⟨_, (decide (((rd_T43 l0_0 a1).f3) > (wrap64 ((l0_0.length : Int) - a1)))), (by first | rfl | (simp; done) | (simp [*]; done)), H', ⟨by have := HJ2.out; first | omega | exact Nat.le_refl _⟩, ⟨by (with_reducible repeat (first | refine blk_drewN ?_ _ | refine blk_drew ?_ | refine blk_alloc ?_ _)); exact BK185.out⟩, ⟨by repeat (first | (with_reducible first | exact HB.out | apply below_alloc | apply pw_below_drewN | apply below_drew1 | refine below_set ?_ GE185.out) | exact HB.out)⟩⟩
            case rest =>
              clear HC10
              try clear c1
              try clear p1
              try clear q1
              try clear hx1
              try clear c2
              try clear p2
              try clear c5
              try clear c5b0
              try clear p6
              try clear c7
              try clear c8
              try clear c8b0
              try clear c9
              try clear c9b0
              try clear c12
              try clear c12b0
              try clear hcz11_0
              try clear hcz13_0
              try clear hcz6_0
              try clear hfz11_0
              try clear hfz13_0
              try clear hfz6_0
              try clear hx186_0
              try clear hx186_1
              try clear hx186_2
              try clear hx186_3
              try clear p186
              try clear p2
              try clear q186
              obtain ⟨kq, x34_9, rfl, HA, HJ9, BK185, HB⟩ := hcut
              cases kq with
              | zero => exact absurd HA.out (by simp [monikerref4_Kids.j1])
              | succ kj9 =>
                have H := HA.out
                clear HA
                simp only [monikerref4_Kids.j1] at H
                by_cases c14 : x34_9 = true
                · subst c14
                  have H1 : (some (([] : List Int), false)) = some (r1, r2) := by rw [if_pos rfl] at H; exact H
                  clear H
                  have H := H1
                  clear H1
                  simp only [Option.some.injEq, Prod.mk.injEq] at H
                  obtain ⟨rfl, rfl⟩ := H
                  go_wp2
                  go_ret2
                  exact ⟨_, by first | rfl | (simp [errW_none, errW_some] <;> rfl) | (simp [*, errW_none, errW_some] <;> rfl), by first | exact Kd.R_nil _ _ _ _ _ | exact Kd.N_nil _ _ _ _ _ | exact Kd.V_nil _ _ _ _ _ | exact Kd.Q_nil _ _ _ _ _ | exact Kd.S_nil _ _ _ _ _, by repeat (first | (with_reducible first | exact HB.out | apply below_alloc | apply pw_below_drewN | apply below_drew1 | refine below_set ?_ GE185.out) | exact HB.out)⟩
                · replace c14 := Bool.eq_false_iff.mpr c14
                  subst c14
                  have H1 : (monikerref4_Kids.l0 kj9 a1 ((rd_T43 l0_0 a1).f3) ([] : List Int) (wrap64 (a1 + 1)) l0_0) = some (r1, r2) := by rw [if_neg (show ¬ (false = true) by decide)] at H; exact H
                  clear H
                  have H := H1
                  clear H1
                  have H' := Aside0.mk H
                  clear H
                  go_wp2
                  go_loopg [7, 8] kj9 (fun kq v7 v8 w' => ∃ (x7_3 : List Int) (x8_3 : Int), v8 = .int .i64 x8_3 ∧ Aside0 (monikerref4_Kids.l0 kq a1 ((rd_T43 l0_0 a1).f3) x7_3 x8_3 l0_0 = some (r1, r2)) ∧ Aside0 (kq ≤ kj9) ∧ Aside0 (Kd.R (Kd.int .i64) 3 w' w.heap.size (fun _ => True) v7 x7_3) ∧ Aside0 (w'.heap[gb185]? = some (.cells #[(.slice (some ad186) l0_0.length c0_0)] 24 (0, 0))) ∧ Aside0 (Below w.heap.size w w'))
                  case atStart => exact ⟨(([] : List Int)), (wrap64 (a1 + 1)), (by first | rfl | (simp; done) | (simp [*]; done)), H', ⟨Nat.le_refl _⟩, ⟨by first | exact Kd.R_nil _ _ _ _ _ | exact Kd.N_nil _ _ _ _ _ | exact Kd.V_nil _ _ _ _ _ | exact Kd.Q_nil _ _ _ _ _ | exact Kd.S_nil _ _ _ _ _⟩, ⟨by (with_reducible repeat (first | refine blk_drewN ?_ _ | refine blk_drew ?_ | refine blk_alloc ?_ _)); exact BK185.out⟩, ⟨by repeat (first | (with_reducible first | exact HB.out | apply below_alloc | apply pw_below_drewN | apply below_drew1 | refine below_set ?_ GE185.out) | exact HB.out)⟩⟩
                  case round =>
                    clear H'
                    try clear c1
                    try clear p1
                    try clear q1
                    try clear hx1
                    try clear c2
                    try clear p2
                    try clear c5
                    try clear c5b0
                    try clear p6
                    try clear c7
                    try clear c8
                    try clear c8b0
                    try clear c9
                    try clear c9b0
                    try clear c12
                    try clear c12b0
                    try clear c14
                    try clear hcz11_0
                    try clear hcz13_0
                    try clear hcz6_0
                    try clear hfz11_0
                    try clear hfz13_0
                    try clear hfz6_0
                    try clear hx186_0
                    try clear hx186_1
                    try clear hx186_2
                    try clear hx186_3
                    try clear p1
                    try clear p186
                    try clear p2
                    try clear p6
                    try clear q1
                    try clear q186
                    obtain ⟨x7_3, x8_3, rfl, HA, HK3, HO_7, BK185, HB⟩ := hrel
                    cases gk with
                    | zero => exact absurd HA.out (by simp [monikerref4_Kids.l0])
                    | succ k3 =>
                      have H := HA.out
                      clear HA
                      simp only [monikerref4_Kids.l0] at H
                      by_cases c15 : x8_3 < (wrap64 (a1 + ((rd_T43 l0_0 a1).f3)))
                      · rw [if_pos c15] at H
                        have c15b0 : decide (x8_3 < (wrap64 (a1 + ((rd_T43 l0_0 a1).f3)))) = true := decide_eq_true c15
                        clear c15
                        by_cases c16 : x7_3.length < 17592186044416
                        · rw [if_pos c16] at H
                          have LMc16 := Aside0.mk c16
                          clear c16
                          obtain ⟨y187, hy187⟩ : ∃ y_ : List Int, y_ = (x7_3 ++ [x8_3]) := ⟨_, rfl⟩
                          replace H : (if 0 ≤ x8_3 then (if x8_3 < (l0_0.length : Int) then (if ((rd_T43 l0_0 x8_3).f3) < 1 then (some (([] : List Int), false)) else (if ((rd_T43 l0_0 x8_3).f3) > (wrap64 ((wrap64 (a1 + ((rd_T43 l0_0 a1).f3))) - x8_3)) then (some (([] : List Int), false)) else (monikerref4_Kids.l0 k3 a1 ((rd_T43 l0_0 a1).f3) y187 (wrap64 (x8_3 + ((rd_T43 l0_0 x8_3).f3))) l0_0))) else (none)) else (none)) = some (r1, r2) := by first | (rw [hy187]; with_reducible exact H) | (have H2_ := (Option.bind_some _ _).symm.trans H; rw [hy187]; with_reducible exact H2_) | (have H2_ := (Option.bind_some _ _).symm.trans H; with_reducible exact H2_) | with_reducible exact H | (rw [hy187]; exact H) | exact H
                          have Ny187 := Aside0.mk hy187
                          clear hy187
                          by_cases c17 : 0 ≤ x8_3
                          · rw [if_pos c17] at H
                            have c17b0 : decide (0 ≤ x8_3) = true := decide_eq_true c17
                            clear c17
                            by_cases c18 : x8_3 < (l0_0.length : Int)
                            · rw [if_pos c18] at H
                              have c18b0 : decide (x8_3 < (l0_0.length : Int)) = true := decide_eq_true c18
                              clear c18
                              by_cases c19 : ((rd_T43 l0_0 x8_3).f3) < 1
                              · rw [if_pos c19] at H
                                have c19b0 : decide (((rd_T43 l0_0 x8_3).f3) < 1) = true := decide_eq_true c19
                                clear c19
                                simp only [Option.some.injEq, Prod.mk.injEq] at H
                                obtain ⟨rfl, rfl⟩ := H
                                go_wp2_with (first | ((with_reducible refine gate_builtin (b := .append) (xs := #[.tmp 42, .tmp 44]) rfl ?_); (try (refine gate_guard (by rfl) ?_; dsimp only)); at_builtin; refine Kd.R_append (Kd.int .i64) (w0 := w) w.heap.size rfl (.tmp 42) (.tmp 44) 55 3 (.int .i64 0) 8 rfl Tryd.underlying55 info3 rfl (by decide) (by omega) u7 x7_3 x8_3 [.int .i64 x8_3] (fun _ => True) (fun _ => False) rfl rfl ?aP (fun _ hk => hk.elim) ?aF ?aO ?aB ?aS ?aL ?_; (case aP => exact rfl); (case aB => exact (by repeat (first | (with_reducible first | exact HB.out | apply below_alloc | apply pw_below_drewN | apply below_drew1 | refine below_set ?_ GE185.out) | exact HB.out))); (case aF => exact (fun _ _ => trivial)); (case aO => exact (by (with_reducible repeat (first | apply Kd.R_alloc | apply Kd.R_drewN | apply Kd.R_drew)); exact HO_7.out)); (case aS => exact (below_size (by repeat (first | (with_reducible first | exact HB.out | apply below_alloc | apply pw_below_drewN | apply below_drew1 | refine below_set ?_ GE185.out) | exact HB.out)))); (case aL => have := LMc16.out; omega); intro v188 w20 ho hb hg hat; rw [← Ny187.out] at ho; have n0_ := Aside0.mk (blk_grown (g := gb185) (o := .cells #[.slice (some ad186) l0_0.length c0_0] 24 (0, 0)) (by (with_reducible repeat (first | refine blk_drewN ?_ _ | refine blk_drew ?_ | refine blk_alloc ?_ _)); exact BK185.out) hg (Kd.R_ne HO_7.out BK185.out (by decide))); have n1_ := Aside0.mk (hb); have n2_ := Aside0.mk (ho); clear BK185; clear HB; clear HO_7; have BK185 := n0_; have HB := n1_; have HO189 := n2_; clear n0_ n1_ n2_; clear ho hb hg hat; have hcz21_0 : w20.cell? ⟨gb185, 0, none⟩ = some (.slice (some ad186) l0_0.length c0_0) := (blk_cell BK185.out 0).trans rfl; have hfz21_0 := blk_frozen BK185.out 0; have p190 : 0 ≤ (x8_3 : Int) := of_decide_eq_true (by first | (with_reducible assumption) | assumption); have q190 : x8_3 < (l0_0.length : Int) := of_decide_eq_true (by first | (with_reducible assumption) | assumption); obtain ⟨ad190, e190, hx190_0, hx190_1, hx190_2, hx190_3⟩ := at_T43 HR0_0.out x8_3 p190 q190; obtain rfl : ad186 = ad190 := (by injection e190); replace hx190_0 := (HB.out.cell (World.block_lt_of_cell? w _ hx190_0)).trans hx190_0; replace hx190_1 := (HB.out.cell (World.block_lt_of_cell? w _ hx190_1)).trans hx190_1; replace hx190_2 := (HB.out.cell (World.block_lt_of_cell? w _ hx190_2)).trans hx190_2; replace hx190_3 := (HB.out.cell (World.block_lt_of_cell? w _ hx190_3)).trans hx190_3; replace p190 := eq_true p190; replace q190 := eq_true q190))
                                go_ret2
                                exact ⟨_, by first | rfl | (simp [errW_none, errW_some] <;> rfl) | (simp [*, errW_none, errW_some] <;> rfl), by first | exact Kd.R_nil _ _ _ _ _ | exact Kd.N_nil _ _ _ _ _ | exact Kd.V_nil _ _ _ _ _ | exact Kd.Q_nil _ _ _ _ _ | exact Kd.S_nil _ _ _ _ _, by repeat (first | (with_reducible first | exact HB.out | apply below_alloc | apply pw_below_drewN | apply below_drew1 | refine below_set ?_ GE185.out) | exact HB.out)⟩
                              · rw [if_neg c19] at H
                                have c19b0 : decide (((rd_T43 l0_0 x8_3).f3) < 1) = false := decide_eq_false c19
                                clear c19
                                by_cases c22 : ((rd_T43 l0_0 x8_3).f3) > (wrap64 ((wrap64 (a1 + ((rd_T43 l0_0 a1).f3))) - x8_3))
                                · rw [if_pos c22] at H
                                  have c22b0 : decide ((wrap64 ((wrap64 (a1 + ((rd_T43 l0_0 a1).f3))) - x8_3)) < ((rd_T43 l0_0 x8_3).f3)) = true := decide_eq_true c22
                                  clear c22
                                  simp only [Option.some.injEq, Prod.mk.injEq] at H
                                  obtain ⟨rfl, rfl⟩ := H
                                  go_wp2_with (first | ((with_reducible refine gate_builtin (b := .append) (xs := #[.tmp 42, .tmp 44]) rfl ?_); (try (refine gate_guard (by rfl) ?_; dsimp only)); at_builtin; refine Kd.R_append (Kd.int .i64) (w0 := w) w.heap.size rfl (.tmp 42) (.tmp 44) 55 3 (.int .i64 0) 8 rfl Tryd.underlying55 info3 rfl (by decide) (by omega) u7 x7_3 x8_3 [.int .i64 x8_3] (fun _ => True) (fun _ => False) rfl rfl ?aP (fun _ hk => hk.elim) ?aF ?aO ?aB ?aS ?aL ?_; (case aP => exact rfl); (case aB => exact (by repeat (first | (with_reducible first | exact HB.out | apply below_alloc | apply pw_below_drewN | apply below_drew1 | refine below_set ?_ GE185.out) | exact HB.out))); (case aF => exact (fun _ _ => trivial)); (case aO => exact (by (with_reducible repeat (first | apply Kd.R_alloc | apply Kd.R_drewN | apply Kd.R_drew)); exact HO_7.out)); (case aS => exact (below_size (by repeat (first | (with_reducible first | exact HB.out | apply below_alloc | apply pw_below_drewN | apply below_drew1 | refine below_set ?_ GE185.out) | exact HB.out)))); (case aL => have := LMc16.out; omega); intro v188 w23 ho hb hg hat; rw [← Ny187.out] at ho; have n0_ := Aside0.mk (blk_grown (g := gb185) (o := .cells #[.slice (some ad186) l0_0.length c0_0] 24 (0, 0)) (by (with_reducible repeat (first | refine blk_drewN ?_ _ | refine blk_drew ?_ | refine blk_alloc ?_ _)); exact BK185.out) hg (Kd.R_ne HO_7.out BK185.out (by decide))); have n1_ := Aside0.mk (hb); have n2_ := Aside0.mk (ho); clear BK185; clear HB; clear HO_7; have BK185 := n0_; have HB := n1_; have HO189 := n2_; clear n0_ n1_ n2_; clear ho hb hg hat; have hcz24_0 : w23.cell? ⟨gb185, 0, none⟩ = some (.slice (some ad186) l0_0.length c0_0) := (blk_cell BK185.out 0).trans rfl; have hfz24_0 := blk_frozen BK185.out 0; have p190 : 0 ≤ (x8_3 : Int) := of_decide_eq_true (by first | (with_reducible assumption) | assumption); have q190 : x8_3 < (l0_0.length : Int) := of_decide_eq_true (by first | (with_reducible assumption) | assumption); obtain ⟨ad190, e190, hx190_0, hx190_1, hx190_2, hx190_3⟩ := at_T43 HR0_0.out x8_3 p190 q190; obtain rfl : ad186 = ad190 := (by injection e190); replace hx190_0 := (HB.out.cell (World.block_lt_of_cell? w _ hx190_0)).trans hx190_0; replace hx190_1 := (HB.out.cell (World.block_lt_of_cell? w _ hx190_1)).trans hx190_1; replace hx190_2 := (HB.out.cell (World.block_lt_of_cell? w _ hx190_2)).trans hx190_2; replace hx190_3 := (HB.out.cell (World.block_lt_of_cell? w _ hx190_3)).trans hx190_3; replace p190 := eq_true p190; replace q190 := eq_true q190; have p191 : 0 ≤ (x8_3 : Int) := of_decide_eq_true (by first | (with_reducible assumption) | assumption); have q191 : x8_3 < (l0_0.length : Int) := of_decide_eq_true (by first | (with_reducible assumption) | assumption); obtain ⟨ad191, e191, hx191_0, hx191_1, hx191_2, hx191_3⟩ := at_T43 HR0_0.out x8_3 p191 q191; obtain rfl : ad186 = ad191 := (by injection e191); replace hx191_0 := (HB.out.cell (World.block_lt_of_cell? w _ hx191_0)).trans hx191_0; replace hx191_1 := (HB.out.cell (World.block_lt_of_cell? w _ hx191_1)).trans hx191_1; replace hx191_2 := (HB.out.cell (World.block_lt_of_cell? w _ hx191_2)).trans hx191_2; replace hx191_3 := (HB.out.cell (World.block_lt_of_cell? w _ hx191_3)).trans hx191_3; replace p191 := eq_true p191; replace q191 := eq_true q191))
                                  go_ret2
                                  exact ⟨_, by first | rfl | (simp [errW_none, errW_some] <;> rfl) | (simp [*, errW_none, errW_some] <;> rfl), by first | exact Kd.R_nil _ _ _ _ _ | exact Kd.N_nil _ _ _ _ _ | exact Kd.V_nil _ _ _ _ _ | exact Kd.Q_nil _ _ _ _ _ | exact Kd.S_nil _ _ _ _ _, by repeat (first | (with_reducible first | exact HB.out | apply below_alloc | apply pw_below_drewN | apply below_drew1 | refine below_set ?_ GE185.out) | exact HB.out)⟩
                                · rw [if_neg c22] at H
                                  have c22b0 : decide ((wrap64 ((wrap64 (a1 + ((rd_T43 l0_0 a1).f3))) - x8_3)) < ((rd_T43 l0_0 x8_3).f3)) = false := decide_eq_false c22
                                  clear c22
                                  have H' := Aside0.mk H
                                  clear H
                                  go_wp2_with (first | ((with_reducible refine gate_builtin (b := .append) (xs := #[.tmp 42, .tmp 44]) rfl ?_); (try (refine gate_guard (by rfl) ?_; dsimp only)); at_builtin; refine Kd.R_append (Kd.int .i64) (w0 := w) w.heap.size rfl (.tmp 42) (.tmp 44) 55 3 (.int .i64 0) 8 rfl Tryd.underlying55 info3 rfl (by decide) (by omega) u7 x7_3 x8_3 [.int .i64 x8_3] (fun _ => True) (fun _ => False) rfl rfl ?aP (fun _ hk => hk.elim) ?aF ?aO ?aB ?aS ?aL ?_; (case aP => exact rfl); (case aB => exact (by repeat (first | (with_reducible first | exact HB.out | apply below_alloc | apply pw_below_drewN | apply below_drew1 | refine below_set ?_ GE185.out) | exact HB.out))); (case aF => exact (fun _ _ => trivial)); (case aO => exact (by (with_reducible repeat (first | apply Kd.R_alloc | apply Kd.R_drewN | apply Kd.R_drew)); exact HO_7.out)); (case aS => exact (below_size (by repeat (first | (with_reducible first | exact HB.out | apply below_alloc | apply pw_below_drewN | apply below_drew1 | refine below_set ?_ GE185.out) | exact HB.out)))); (case aL => have := LMc16.out; omega); intro v188 w25 ho hb hg hat; rw [← Ny187.out] at ho; have n0_ := Aside0.mk (blk_grown (g := gb185) (o := .cells #[.slice (some ad186) l0_0.length c0_0] 24 (0, 0)) (by (with_reducible repeat (first | refine blk_drewN ?_ _ | refine blk_drew ?_ | refine blk_alloc ?_ _)); exact BK185.out) hg (Kd.R_ne HO_7.out BK185.out (by decide))); have n1_ := Aside0.mk (hb); have n2_ := Aside0.mk (ho); clear BK185; clear HB; clear HO_7; have BK185 := n0_; have HB := n1_; have HO189 := n2_; clear n0_ n1_ n2_; clear ho hb hg hat; have hcz26_0 : w25.cell? ⟨gb185, 0, none⟩ = some (.slice (some ad186) l0_0.length c0_0) := (blk_cell BK185.out 0).trans rfl; have hfz26_0 := blk_frozen BK185.out 0; have p190 : 0 ≤ (x8_3 : Int) := of_decide_eq_true (by first | (with_reducible assumption) | assumption); have q190 : x8_3 < (l0_0.length : Int) := of_decide_eq_true (by first | (with_reducible assumption) | assumption); obtain ⟨ad190, e190, hx190_0, hx190_1, hx190_2, hx190_3⟩ := at_T43 HR0_0.out x8_3 p190 q190; obtain rfl : ad186 = ad190 := (by injection e190); replace hx190_0 := (HB.out.cell (World.block_lt_of_cell? w _ hx190_0)).trans hx190_0; replace hx190_1 := (HB.out.cell (World.block_lt_of_cell? w _ hx190_1)).trans hx190_1; replace hx190_2 := (HB.out.cell (World.block_lt_of_cell? w _ hx190_2)).trans hx190_2; replace hx190_3 := (HB.out.cell (World.block_lt_of_cell? w _ hx190_3)).trans hx190_3; replace p190 := eq_true p190; replace q190 := eq_true q190; have p191 : 0 ≤ (x8_3 : Int) := of_decide_eq_true (by first | (with_reducible assumption) | assumption); have q191 : x8_3 < (l0_0.length : Int) := of_decide_eq_true (by first | (with_reducible assumption) | assumption); obtain ⟨ad191, e191, hx191_0, hx191_1, hx191_2, hx191_3⟩ := at_T43 HR0_0.out x8_3 p191 q191; obtain rfl : ad186 = ad191 := (by injection e191); replace hx191_0 := (HB.out.cell (World.block_lt_of_cell? w _ hx191_0)).trans hx191_0; replace hx191_1 := (HB.out.cell (World.block_lt_of_cell? w _ hx191_1)).trans hx191_1; replace hx191_2 := (HB.out.cell (World.block_lt_of_cell? w _ hx191_2)).trans hx191_2; replace hx191_3 := (HB.out.cell (World.block_lt_of_cell? w _ hx191_3)).trans hx191_3; replace p191 := eq_true p191; replace q191 := eq_true q191; have p192 : 0 ≤ (x8_3 : Int) := of_decide_eq_true (by first | (with_reducible assumption) | assumption); have q192 : x8_3 < (l0_0.length : Int) := of_decide_eq_true (by first | (with_reducible assumption) | assumption); obtain ⟨ad192, e192, hx192_0, hx192_1, hx192_2, hx192_3⟩ := at_T43 HR0_0.out x8_3 p192 q192; obtain rfl : ad186 = ad192 := (by injection e192); replace hx192_0 := (HB.out.cell (World.block_lt_of_cell? w _ hx192_0)).trans hx192_0; replace hx192_1 := (HB.out.cell (World.block_lt_of_cell? w _ hx192_1)).trans hx192_1; replace hx192_2 := (HB.out.cell (World.block_lt_of_cell? w _ hx192_2)).trans hx192_2; replace hx192_3 := (HB.out.cell (World.block_lt_of_cell? w _ hx192_3)).trans hx192_3; replace p192 := eq_true p192; replace q192 := eq_true q192))
                                  go_roundg k3
                                  case measure => have := HJ2.out; have := HJ9.out; have := HK3.out; omega
                                  case rel => exact ⟨(y187), (wrap64 (x8_3 + ((rd_T43 l0_0 x8_3).f3))), (by first | rfl | (simp; done) | (simp [*]; done)), H', ⟨by have := HJ2.out; have := HJ9.out; have := HK3.out; omega⟩, ⟨by (with_reducible repeat (first | apply Kd.R_alloc | apply Kd.R_drewN | apply Kd.R_drew)); exact HO189.out⟩, ⟨by (with_reducible repeat (first | refine blk_drewN ?_ _ | refine blk_drew ?_ | refine blk_alloc ?_ _)); exact BK185.out⟩, ⟨by repeat (first | (with_reducible first | exact HB.out | apply below_alloc | apply pw_below_drewN | apply below_drew1 | refine below_set ?_ GE185.out) | exact HB.out)⟩⟩
                            · rw [if_neg c18] at H
                              exact absurd H (by simp)
                          · rw [if_neg c17] at H
                            exact absurd H (by simp)
                        · rw [if_neg c16] at H
                          exact absurd H (by simp)
                      · rw [if_neg c15] at H
                        have c15b0 : decide (x8_3 < (wrap64 (a1 + ((rd_T43 l0_0 a1).f3)))) = false := decide_eq_false c15
                        clear c15
                        simp only [Option.some.injEq, Prod.mk.injEq] at H
                        obtain ⟨rfl, rfl⟩ := H
                        go_wp2
                        go_ret2
                        exact ⟨_, by first | rfl | (simp [errW_none, errW_some] <;> rfl) | (simp [*, errW_none, errW_some] <;> rfl), by (with_reducible repeat (first | apply Kd.R_alloc | apply Kd.R_drewN | apply Kd.R_drew)); exact HO_7.out, by repeat (first | (with_reducible first | exact HB.out | apply below_alloc | apply pw_below_drewN | apply below_drew1 | refine below_set ?_ GE185.out) | exact HB.out)⟩
          · rw [if_neg c9] at H
            exact absurd H (by simp)
        · rw [if_neg c8] at H
          exact absurd H (by simp)

end Go.Proofs.YtodldpdnhcafpaaDoor.F

-- the kids' list, plainly (mkq0.py)
namespace Go.Proofs.YtodldpdnhcafpaaDoor.Q
open Go.RowKit Go.Proofs.YtodldpdnhcafpaaDoorW.PrintWords Go.Proofs.YtodldpdnhcafpaaDoorW.PrintLast Go.Proofs.YtodldpdnhcafpaaDoorW.PrintMore
open Go.Proofs.YtodldpdnhcafpaaDoor.F
set_option linter.unusedSimpArgs false
set_option linter.unusedVariables false

def kids.l0 : Nat → Int → List Int → Int → List S43 → Option (List Int × Bool)
  | 0, _, _, _, _ => none
  | k + 1, en, pre, x, l => if x < en then (if 0 ≤ x then (if x < (l.length : Int) then (if (rd_T43 l x).f3 < 1 then some (pre ++ [x], false) else (if (rd_T43 l x).f3 > wrap64 (en - x) then some (pre ++ [x], false) else kids.l0 k en (pre ++ [x]) (wrap64 (x + (rd_T43 l x).f3)) l)) else none) else none) else some (pre, true)
def kids.f (k : Nat) (l : List S43) (n : Int) : Option (List Int × Bool) := (tree_sized.f l n).bind fun s => if s = true then (if 0 ≤ n then (if n < (l.length : Int) then kids.l0 k (wrap64 (n + (rd_T43 l n).f3)) [] (wrap64 (n + 1)) l else none) else none) else some ([], false)

theorem kw64 {x : Int} (h0 : -9223372036854775808 ≤ x) (h1 : x ≤ 9223372036854775807) : wrap64 x = x := by unfold wrap64; omega
/-- The kids' numbers up to the first that is out of order; whether none is. -/
def kgo (l : List S43) (en : Int) : Nat → List Int → Int → List Int × Bool
  | 0, pre, _ => (pre, true)
  | d + 1, pre, x => if x < en then (if (rd_T43 l x).f3 < 1 then (pre ++ [x], false) else if (rd_T43 l x).f3 > en - x then (pre ++ [x], false) else kgo l en d (pre ++ [x]) (x + (rd_T43 l x).f3)) else (pre, true)
def sizedB (l : List S43) (n : Int) : Bool := decide (0 ≤ n) && (decide (n < (l.length : Int)) && (decide (1 ≤ (rd_T43 l n).f3) && decide ((rd_T43 l n).f3 ≤ (l.length : Int) - n)))
def kspec (l : List S43) (n : Int) : List Int × Bool := if sizedB l n = true then kgo l (n + (rd_T43 l n).f3) l.length [] (n + 1) else ([], false)
def kidsOf (l : List S43) (n : Int) : List Int := if (kspec l n).2 = true then (kspec l n).1 else []

theorem sized_is (l : List S43) (hl : l.length ≤ 4398046511104) (n : Int) : tree_sized.f l n = some (sizedB l n) := by
  unfold tree_sized.f sizedB
  by_cases h1 : n ≥ 0
  · by_cases h2 : n < (l.length : Int)
    · rw [if_pos h1, if_pos h2, if_pos h1, kw64 (by omega) (by omega)]
      by_cases h3 : (rd_T43 l n).f3 ≥ 1
      · rw [if_pos h3]
        simp [h1, h2, show 1 ≤ (rd_T43 l n).f3 from h3]
      · rw [if_neg h3]
        simp [h1, h2, show ¬ 1 ≤ (rd_T43 l n).f3 from h3]
    · rw [if_pos h1, if_neg h2]; simp [h2]
  · rw [if_neg h1]; simp [show ¬ 0 ≤ n from h1]

theorem kids_loop (l : List S43) (hl : l.length ≤ 4398046511104) (n sz en : Int) (hen : en ≤ l.length) (he : wrap64 (n + sz) = en) (h0 : 0 ≤ en) (d : Nat) : ∀ (pre : List Int) (x : Int), 0 ≤ x → en - x ≤ d → (pre.length : Int) ≤ x → pre.length ≤ l.length →
    Ev (fun k => kids.l0 k en pre x l) (kgo l en d pre x) ∧ (kgo l en d pre x).1.length ≤ l.length ∧
    Ev (fun k => monikerref4_Kids.l0 k n sz pre x l) (if (kgo l en d pre x).2 = true then (kgo l en d pre x).1 else [], (kgo l en d pre x).2) := by
  induction d with
  | zero =>
    intro pre x hx hd hp hpl
    refine ⟨⟨1, fun m hm => ?_⟩, hpl, ⟨1, fun m hm => ?_⟩⟩
    · obtain ⟨k, rfl⟩ : ∃ j, m = j + 1 := ⟨m - 1, by omega⟩
      simp only [kids.l0, kgo]
      rw [if_neg (by omega)]
    · obtain ⟨k, rfl⟩ : ∃ j, m = j + 1 := ⟨m - 1, by omega⟩
      simp only [monikerref4_Kids.l0, kgo, he]
      rw [if_neg (by omega), if_pos trivial]
  | succ d ih =>
    intro pre x hx hd hp hpl
    have hlim : pre.length < 17592186044416 := by omega
    by_cases c : x < en
    · have hx2 : x < (l.length : Int) := by omega
      have hw : wrap64 (en - x) = en - x := kw64 (by omega) (by omega)
      have hl1 : (pre ++ [x]).length ≤ l.length := by rw [List.length_append, List.length_singleton]; omega
      by_cases c1 : (rd_T43 l x).f3 < 1
      · have e : kgo l en (d + 1) pre x = (pre ++ [x], false) := by simp only [kgo]; rw [if_pos c, if_pos c1]
        rw [e]
        refine ⟨⟨1, fun m hm => ?_⟩, hl1, ⟨1, fun m hm => ?_⟩⟩
        · obtain ⟨k, rfl⟩ : ∃ j, m = j + 1 := ⟨m - 1, by omega⟩
          simp only [kids.l0]
          rw [if_pos c, if_pos hx, if_pos hx2, if_pos c1]
        · obtain ⟨k, rfl⟩ : ∃ j, m = j + 1 := ⟨m - 1, by omega⟩
          simp only [monikerref4_Kids.l0, he]
          rw [if_pos c, if_pos hlim, if_pos hx, if_pos hx2, if_pos c1]
          simp
      · by_cases c2 : (rd_T43 l x).f3 > en - x
        · have e : kgo l en (d + 1) pre x = (pre ++ [x], false) := by simp only [kgo]; rw [if_pos c, if_neg c1, if_pos c2]
          rw [e]
          refine ⟨⟨1, fun m hm => ?_⟩, hl1, ⟨1, fun m hm => ?_⟩⟩
          · obtain ⟨k, rfl⟩ : ∃ j, m = j + 1 := ⟨m - 1, by omega⟩
            simp only [kids.l0]
            rw [if_pos c, if_pos hx, if_pos hx2, if_neg c1, hw, if_pos c2]
          · obtain ⟨k, rfl⟩ : ∃ j, m = j + 1 := ⟨m - 1, by omega⟩
            simp only [monikerref4_Kids.l0, he]
            rw [if_pos c, if_pos hlim, if_pos hx, if_pos hx2, if_neg c1, hw, if_pos c2]
            simp
        · have e : kgo l en (d + 1) pre x = kgo l en d (pre ++ [x]) (x + (rd_T43 l x).f3) := by simp only [kgo]; rw [if_pos c, if_neg c1, if_neg c2]
          rw [e]
          have hw2 : wrap64 (x + (rd_T43 l x).f3) = x + (rd_T43 l x).f3 := kw64 (by omega) (by omega)
          obtain ⟨i1, i2, i3⟩ := ih (pre ++ [x]) (x + (rd_T43 l x).f3) (by omega) (by omega) (by rw [List.length_append, List.length_singleton]; omega) hl1
          refine ⟨Ev.step (fun k => ?_) i1, i2, Ev.step (fun k => ?_) i3⟩
          · simp only [kids.l0]
            rw [if_pos c, if_pos hx, if_pos hx2, if_neg c1, hw, if_neg c2, hw2]
          · simp only [monikerref4_Kids.l0, he]
            rw [if_pos c, if_pos hlim, if_pos hx, if_pos hx2, if_neg c1, hw, if_neg c2, hw2]
    · have e : kgo l en (d + 1) pre x = (pre, true) := by simp only [kgo]; rw [if_neg c]
      rw [e]
      refine ⟨⟨1, fun m hm => ?_⟩, hpl, ⟨1, fun m hm => ?_⟩⟩
      · obtain ⟨k, rfl⟩ : ∃ j, m = j + 1 := ⟨m - 1, by omega⟩
        simp only [kids.l0]
        rw [if_neg c]
      · obtain ⟨k, rfl⟩ : ∃ j, m = j + 1 := ⟨m - 1, by omega⟩
        simp only [monikerref4_Kids.l0, he]
        rw [if_neg c, if_pos trivial]

theorem Kids_all (l : List S43) (hl : l.length ≤ 4398046511104) (n : Int) :
    Ev (fun k => kids.f k l n) (kspec l n) ∧ (kspec l n).1.length ≤ l.length ∧ Ev (fun k => monikerref4_Kids.f k l n) (kidsOf l n, (kspec l n).2) := by
  unfold kidsOf
  by_cases hs : sizedB l n = true
  · have h := hs
    unfold sizedB at h
    simp only [Bool.and_eq_true, decide_eq_true_eq] at h
    obtain ⟨h1, h2, h3, h4⟩ := h
    have hw : wrap64 (n + (rd_T43 l n).f3) = n + (rd_T43 l n).f3 := kw64 (by omega) (by omega)
    have hw1 : wrap64 (n + 1) = n + 1 := kw64 (by omega) (by omega)
    have hw2 : wrap64 ((l.length : Int) - n) = (l.length : Int) - n := kw64 (by omega) (by omega)
    obtain ⟨i1, i2, i3⟩ := kids_loop l hl n (rd_T43 l n).f3 (n + (rd_T43 l n).f3) (by omega) hw (by omega) l.length [] (n + 1) (by omega) (by omega) (by simp; omega) (by simp)
    have e : kspec l n = kgo l (n + (rd_T43 l n).f3) l.length [] (n + 1) := by unfold kspec; rw [if_pos hs]
    rw [e]
    refine ⟨Ev.congr (fun k => ?_) i1, i2, ?_⟩
    · unfold kids.f
      rw [sized_is l hl, hs]
      simp only [Option.bind_some, if_true]
      rw [if_pos h1, if_pos h2, hw, hw1]
    · unfold monikerref4_Kids.f
      simp only [if_neg (show ¬ n < 0 by omega), show decide (n ≥ (l.length : Int)) = false from decide_eq_false (by omega)]
      refine Ev.step (f := fun k => monikerref4_Kids.j1 k n (rd_T43 l n).f3 false l) (fun k => ?_) ?_
      · simp only [monikerref4_Kids.j0, hw2]
        rw [if_neg (by simp), if_pos h1, if_pos h2, if_neg (by omega), show decide ((rd_T43 l n).f3 > (l.length : Int) - n) = false from decide_eq_false (by omega)]
      · refine Ev.step (fun k => ?_) i3
        simp only [monikerref4_Kids.j1, hw1]
        rw [if_neg (by simp)]
  · have e : kspec l n = ([], false) := by unfold kspec; rw [if_neg hs]
    rw [e]
    have hs' : sizedB l n = false := by simpa using hs
    refine ⟨⟨0, fun k _ => ?_⟩, by simp, ?_⟩
    · simp only
      unfold kids.f
      rw [sized_is l hl, hs']
      simp
    · simp only [Bool.false_eq_true, if_false]
      have hbad : Ev (fun k => monikerref4_Kids.j0 k n true l) (([] : List Int), false) := ⟨1, fun m hm => by
        obtain ⟨k, rfl⟩ : ∃ j, m = j + 1 := ⟨m - 1, by omega⟩
        simp only [monikerref4_Kids.j0]; rfl⟩
      unfold monikerref4_Kids.f
      by_cases h1 : n < 0
      · simp only [if_pos h1]; exact hbad
      · simp only [if_neg h1]
        by_cases h2 : n ≥ (l.length : Int)
        · rw [decide_eq_true h2]; exact hbad
        · rw [decide_eq_false h2]
          have hw2 : wrap64 ((l.length : Int) - n) = (l.length : Int) - n := kw64 (by omega) (by omega)
          have hbad1 : ∀ sz, Ev (fun k => monikerref4_Kids.j1 k n sz true l) (([] : List Int), false) := fun sz => ⟨1, fun m hm => by
            obtain ⟨k, rfl⟩ : ∃ j, m = j + 1 := ⟨m - 1, by omega⟩
            simp only [monikerref4_Kids.j1]; rfl⟩
          refine Ev.step (f := fun k => monikerref4_Kids.j1 k n (rd_T43 l n).f3 true l) (fun k => ?_) (hbad1 _)
          simp only [monikerref4_Kids.j0, hw2]
          rw [if_neg (by simp), if_pos (by omega), if_pos (by omega)]
          by_cases h3 : (rd_T43 l n).f3 < 1
          · rw [if_pos h3]
          · rw [if_neg h3]
            have h4 : (rd_T43 l n).f3 > (l.length : Int) - n := by
              apply Classical.byContradiction
              intro h4
              apply hs
              unfold sizedB
              simp only [Bool.and_eq_true, decide_eq_true_eq]
              omega
            rw [decide_eq_true h4]
end Go.Proofs.YtodldpdnhcafpaaDoor.Q

-- A text of this session's own program (wip/myprint.sh over a changed print tool): functions and their walks
namespace Go.Proofs.YtodldpdnhcafpaaDoor.F
open Go.RowKit Go.Proofs.YtodldpdnhcafpaaDoorW.PrintWords Go.Proofs.YtodldpdnhcafpaaDoorW.PrintLast Go.Proofs.YtodldpdnhcafpaaDoorW.PrintMore
attribute [local go_sem] max2_int min2_int max_two min_two max_three min_three max_four min_four   -- for this text's walks alone
set_option linter.unusedVariables false
set_option linter.unusedSimpArgs false

/-! ### monikerref4_Shaped: function 42 -/
mutual
def monikerref4_Shaped.j0 : Nat → Bool → List (S43) → Option (Bool)
  | 0, _, _ => none
  | k + 1, x20, x194000 => if x20 = true then (some false) else (monikerref4_Shaped.l0 k 0 x194000)
def monikerref4_Shaped.l0 : Nat → Int → List (S43) → Option (Bool)
  | 0, _, _ => none
  | k + 1, x3, x194000 => if x3 < (x194000.length : Int) then ((monikerref4_Kids.f k x194000 x3).bind fun bt195 => (if bt195.2 = true then (if 0 ≤ x3 then (if (wrap64 ((rd_T43 x194000 x3).f0)) ≥ 58 then (some false) else (monikerref4_Shaped.l0 k (wrap64 (x3 + 1)) x194000)) else (none)) else (some false))) else (some true)
end
def monikerref4_Shaped.f (k : Nat) (l0_0 : List (S43)) : Option (Bool) := if (l0_0.length : Int) = 0 then (monikerref4_Shaped.j0 k true l0_0) else (if 0 < (l0_0.length : Int) then (monikerref4_Shaped.j0 k (((rd_T43 l0_0 0).f3) != (l0_0.length : Int)) l0_0) else (none))
set_option maxHeartbeats 8000000 in
set_option maxRecDepth 100000 in
theorem monikerref4_Shaped.calls (k : Nat) (A0_0 : Option Addr) (c0_0 : Nat) (l0_0 : List (S43)) (r : Bool) (w : World) (hr0_0 : Kd.C k43 w A0_0 l0_0.length l0_0) (hc0_0 : l0_0.length ≤ c0_0) (h : monikerref4_Shaped.f k l0_0 = some r) :
    Calls Tryd.prog 42 #[.agg #[.slice A0_0 l0_0.length c0_0]] w fun e w' => e = .returned (.bool r) ∧ Below w.heap.size w w' := by
  have hu24 := Tryd.underlying24
  have HR0_0 := Aside0.mk hr0_0
  have HC0_0 := Aside0.mk hc0_0
  clear hr0_0 hc0_0
  have HB := Aside0.mk (Below.refl w.heap.size w)
  have H : (if (l0_0.length : Int) = 0 then (monikerref4_Shaped.j0 k true l0_0) else (if 0 < (l0_0.length : Int) then (monikerref4_Shaped.j0 k (((rd_T43 l0_0 0).f3) != (l0_0.length : Int)) l0_0) else (none))) = some r := h
  clear h
  have HC2 := Aside0.mk H
  clear H
  go_enter Tryd.func42, Tryd.ntmps42
  go_upto_region 1 with (first | ((with_reducible refine gate_dst (N := 1) rfl ?_); (try (refine gate_guard (by rfl) ?_; dsimp only)); refine box_event ?hg (N := 1) ?hd (cs := #[.slice A0_0 l0_0.length c0_0]) (t := 24) ?hr ?_; (case hd => rfl); (case hg => rfl); (case hr => first | (go_simp; done) | (go_simp; rfl)); intro gb193 hg w3 hbox hb; have n0_ := Aside0.mk (below_step (by repeat (first | (with_reducible first | exact HB.out | apply below_alloc | apply pw_below_drewN | apply below_drew1) | exact HB.out)) hb); have n1_ := Aside0.mk (hbox); have n2_ := Aside0.mk ((by rw [hg]; exact (below_size (by repeat (first | (with_reducible first | exact HB.out | apply below_alloc | apply pw_below_drewN | apply below_drew1) | exact HB.out))) : w.heap.size ≤ gb193)); have n3_ := Aside0.mk ((by rw [hg]; exact (below_size (by repeat (first | (with_reducible first | exact HB.out | apply below_alloc | apply pw_below_drewN | apply below_drew1) | exact HB.out))) : w.heap.size ≤ gb193)); clear HB; have HB := n0_; have BK193 := n1_; have GW193 := n2_; have GE193 := n3_; clear n0_ n1_ n2_ n3_; clear hb hbox hg))
  repeat (go_quiet (first | ((with_reducible refine gate_dst (N := 1) rfl ?_); (try (refine gate_guard (by rfl) ?_; dsimp only)); refine box_event ?hg (N := 1) ?hd (cs := #[.slice A0_0 l0_0.length c0_0]) (t := 24) ?hr ?_; (case hd => rfl); (case hg => rfl); (case hr => first | (go_simp; done) | (go_simp; rfl)); intro gb193 hg w3 hbox hb; have n0_ := Aside0.mk (below_step (by repeat (first | (with_reducible first | exact HB.out | apply below_alloc | apply pw_below_drewN | apply below_drew1) | exact HB.out)) hb); have n1_ := Aside0.mk (hbox); have n2_ := Aside0.mk ((by rw [hg]; exact (below_size (by repeat (first | (with_reducible first | exact HB.out | apply below_alloc | apply pw_below_drewN | apply below_drew1) | exact HB.out))) : w.heap.size ≤ gb193)); have n3_ := Aside0.mk ((by rw [hg]; exact (below_size (by repeat (first | (with_reducible first | exact HB.out | apply below_alloc | apply pw_below_drewN | apply below_drew1) | exact HB.out))) : w.heap.size ≤ gb193)); clear HB; have HB := n0_; have BK193 := n1_; have GW193 := n2_; have GE193 := n3_; clear n0_ n1_ n2_ n3_; clear hb hbox hg)); go_upto_region 1 with (first | ((with_reducible refine gate_dst (N := 1) rfl ?_); (try (refine gate_guard (by rfl) ?_; dsimp only)); refine box_event ?hg (N := 1) ?hd (cs := #[.slice A0_0 l0_0.length c0_0]) (t := 24) ?hr ?_; (case hd => rfl); (case hg => rfl); (case hr => first | (go_simp; done) | (go_simp; rfl)); intro gb193 hg w3 hbox hb; have n0_ := Aside0.mk (below_step (by repeat (first | (with_reducible first | exact HB.out | apply below_alloc | apply pw_below_drewN | apply below_drew1) | exact HB.out)) hb); have n1_ := Aside0.mk (hbox); have n2_ := Aside0.mk ((by rw [hg]; exact (below_size (by repeat (first | (with_reducible first | exact HB.out | apply below_alloc | apply pw_below_drewN | apply below_drew1) | exact HB.out))) : w.heap.size ≤ gb193)); have n3_ := Aside0.mk ((by rw [hg]; exact (below_size (by repeat (first | (with_reducible first | exact HB.out | apply below_alloc | apply pw_below_drewN | apply below_drew1) | exact HB.out))) : w.heap.size ≤ gb193)); clear HB; have HB := n0_; have BK193 := n1_; have GW193 := n2_; have GE193 := n3_; clear n0_ n1_ n2_ n3_; clear hb hbox hg)))
  (try simp only [Act.put, List.setIfInBounds_toArray, List.set_cons_zero, List.set_cons_succ])
  go_cut [20] (fun v20 wc => ∃ (kq : Nat) (x20_1 : Bool), v20 = .bool x20_1 ∧ Aside0 (monikerref4_Shaped.j0 kq x20_1 l0_0 = some r) ∧ Aside0 (kq ≤ k) ∧ Aside0 (wc.heap[gb193]? = some (.cells #[(.slice A0_0 l0_0.length c0_0)] 24 (0, 0))) ∧ Aside0 (Below w.heap.size w wc))
  case first =>
    have H := HC2.out
    clear HC2
    by_cases c4 : (l0_0.length : Int) = 0
    · rw [if_pos c4] at H
      have c4b0 : ((l0_0.length : Int) == 0) = true := beq_iff_eq.mpr c4
      have c4b1 : ((l0_0.length : Int) != 0) = false := bne_eq_false_iff_eq.mpr c4
      clear c4
      (first | rw [c4b0] | (simp only [i64_w, i32_w]; rw [c4b0]) | skip)
      have H' := Aside0.mk H
      clear H
      have hcz5_0 : w3.cell? ⟨gb193, 0, none⟩ = some (.slice A0_0 l0_0.length c0_0) := (blk_cell BK193.out 0).trans rfl
      have hfz5_0 := blk_frozen BK193.out 0
      go_wp2
      repeat (go_quiet (fail); try go_wp2)
      go_meet
      case rel => exact ⟨_, (true), (by first | rfl | (simp; done) | (simp [*]; done)), H', ⟨by first | omega | exact Nat.le_refl _⟩, ⟨by (with_reducible repeat (first | refine blk_drewN ?_ _ | refine blk_drew ?_ | refine blk_alloc ?_ _)); exact BK193.out⟩, ⟨by repeat (first | (with_reducible first | exact HB.out | apply below_alloc | apply pw_below_drewN | apply below_drew1 | refine below_set ?_ GE193.out) | exact HB.out)⟩⟩
    · rw [if_neg c4] at H
      have c4b0 : ((l0_0.length : Int) == 0) = false := beq_eq_false_iff_ne.mpr c4
      have c4b1 : ((l0_0.length : Int) != 0) = true := bne_iff_ne.mpr c4
      have c4b2 : ¬ (l0_0 = []) := fun h_ => c4 (by rw [h_]; rfl)
      (first | rw [c4b0] | (simp only [i64_w, i32_w]; rw [c4b0]) | skip)
      by_cases c6 : 0 < (l0_0.length : Int)
      · rw [if_pos c6] at H
        have c6b0 : decide (0 < (l0_0.length : Int)) = true := decide_eq_true c6
        have c6b1 : decide (0 < l0_0.length) = true := decide_eq_true (by omega)
        clear c6
        have H' := Aside0.mk H
        clear H
        have hcz7_0 : w3.cell? ⟨gb193, 0, none⟩ = some (.slice A0_0 l0_0.length c0_0) := (blk_cell BK193.out 0).trans rfl
        have hfz7_0 := blk_frozen BK193.out 0
        have p194 : 0 ≤ (0 : Int) := (by omega)
        have q194 : 0 < (l0_0.length : Int) := of_decide_eq_true (by first | (with_reducible assumption) | assumption)
        obtain ⟨ad194, e194, hx194_0, hx194_1, hx194_2, hx194_3⟩ := at_T43 HR0_0.out 0 p194 q194
        cases e194
        have qi194 : (0 < l0_0.length) = True := eq_true (by omega)
        (try rw [show ((0 : Int)).toNat = 0 from rfl] at hx194_0)
        (try rw [show 0 * 4 = 0 from rfl] at hx194_0)
        (try rw [Addr.add_zero'] at hx194_0)
        (try rw [show ((0 : Int)).toNat = 0 from rfl] at hx194_1)
        (try rw [show 0 * 4 = 0 from rfl] at hx194_1)
        (try rw [Addr.add_zero'] at hx194_1)
        (try rw [show ((0 : Int)).toNat = 0 from rfl] at hx194_2)
        (try rw [show 0 * 4 = 0 from rfl] at hx194_2)
        (try rw [Addr.add_zero'] at hx194_2)
        (try rw [show ((0 : Int)).toNat = 0 from rfl] at hx194_3)
        (try rw [show 0 * 4 = 0 from rfl] at hx194_3)
        (try rw [Addr.add_zero'] at hx194_3)
        replace hx194_0 := (HB.out.cell (World.block_lt_of_cell? w _ hx194_0)).trans hx194_0
        replace hx194_1 := (HB.out.cell (World.block_lt_of_cell? w _ hx194_1)).trans hx194_1
        replace hx194_2 := (HB.out.cell (World.block_lt_of_cell? w _ hx194_2)).trans hx194_2
        replace hx194_3 := (HB.out.cell (World.block_lt_of_cell? w _ hx194_3)).trans hx194_3
        replace p194 := eq_true p194
        replace q194 := eq_true q194
        go_wp2
        repeat (go_quiet (fail); try go_wp2)
        go_meet
        case rel => exact ⟨_, ((((rd_T43 l0_0 0).f3) != (l0_0.length : Int))), (by first | rfl | (simp; done) | (simp [*]; done)), H', ⟨by first | omega | exact Nat.le_refl _⟩, ⟨by (with_reducible repeat (first | refine blk_drewN ?_ _ | refine blk_drew ?_ | refine blk_alloc ?_ _)); exact BK193.out⟩, ⟨by repeat (first | (with_reducible first | exact HB.out | apply below_alloc | apply pw_below_drewN | apply below_drew1 | refine below_set ?_ GE193.out) | exact HB.out)⟩⟩
      · rw [if_neg c6] at H
        exact absurd H (by simp)
  case rest =>
    clear HC2
    try clear p1
    try clear q1
    try clear hx1
    try clear qi1
    try clear p2
    try clear c4
    try clear c4b0
    try clear c4b1
    try clear c4b2
    try clear c6
    try clear c6b0
    try clear c6b1
    try clear hcz5_0
    try clear hcz7_0
    try clear hfz5_0
    try clear hfz7_0
    try clear hx194_0
    try clear hx194_1
    try clear hx194_2
    try clear hx194_3
    try clear p194
    try clear q194
    obtain ⟨kq, x20_1, rfl, HA, HJ1, BK193, HB⟩ := hcut
    cases kq with
    | zero => exact absurd HA.out (by simp [monikerref4_Shaped.j0])
    | succ kj1 =>
      have H := HA.out
      clear HA
      simp only [monikerref4_Shaped.j0] at H
      by_cases c8 : x20_1 = true
      · subst c8
        have H1 : (some false) = some r := by rw [if_pos rfl] at H; exact H
        clear H
        have H := H1
        clear H1
        obtain rfl := Option.some.inj H
        go_wp2
        repeat (go_quiet (fail); try go_wp2)
        go_ret
        exact ⟨by first | rfl | (simp [errW_none, errW_some] <;> rfl) | (simp [*, errW_none, errW_some] <;> rfl), by repeat (first | (with_reducible first | exact HB.out | apply below_alloc | apply pw_below_drewN | apply below_drew1 | refine below_set ?_ GE193.out) | exact HB.out)⟩
      · replace c8 := Bool.eq_false_iff.mpr c8
        subst c8
        have H1 : (monikerref4_Shaped.l0 kj1 0 l0_0) = some r := by rw [if_neg (show ¬ (false = true) by decide)] at H; exact H
        clear H
        have H := H1
        clear H1
        have H' := Aside0.mk H
        clear H
        go_wp2
        repeat (go_quiet (fail); try go_wp2)
        go_loopg [3] kj1 (fun kq v3 w' => ∃ (x3_2 : Int), v3 = .int .i64 x3_2 ∧ Aside0 (monikerref4_Shaped.l0 kq x3_2 l0_0 = some r) ∧ Aside0 (kq ≤ kj1) ∧ Aside0 (w'.heap[gb193]? = some (.cells #[(.slice A0_0 l0_0.length c0_0)] 24 (0, 0))) ∧ Aside0 (Below w.heap.size w w'))
        case atStart => exact ⟨(0), (by first | rfl | (simp; done) | (simp [*]; done)), H', ⟨Nat.le_refl _⟩, ⟨by (with_reducible repeat (first | refine blk_drewN ?_ _ | refine blk_drew ?_ | refine blk_alloc ?_ _)); exact BK193.out⟩, ⟨by repeat (first | (with_reducible first | exact HB.out | apply below_alloc | apply pw_below_drewN | apply below_drew1 | refine below_set ?_ GE193.out) | exact HB.out)⟩⟩
        case round =>
          clear H'
          try clear p1
          try clear q1
          try clear hx1
          try clear qi1
          try clear p2
          try clear c4
          try clear c4b0
          try clear c4b1
          try clear c4b2
          try clear c6
          try clear c6b0
          try clear c6b1
          try clear c8
          try clear hcz5_0
          try clear hcz7_0
          try clear hfz5_0
          try clear hfz7_0
          try clear hx194_0
          try clear hx194_1
          try clear hx194_2
          try clear hx194_3
          try clear p1
          try clear p194
          try clear p2
          try clear q1
          try clear q194
          obtain ⟨x3_2, rfl, HA, HK2, BK193, HB⟩ := hrel
          cases gk with
          | zero => exact absurd HA.out (by simp [monikerref4_Shaped.l0])
          | succ k2 =>
            have H := HA.out
            clear HA
            simp only [monikerref4_Shaped.l0] at H
            by_cases c9 : x3_2 < (l0_0.length : Int)
            · rw [if_pos c9] at H
              have c9b0 : decide (x3_2 < (l0_0.length : Int)) = true := decide_eq_true c9
              clear c9
              replace H := Option.bind_eq_some_iff.mp H
              obtain ⟨⟨t195, t198⟩, A100, H⟩ := H
              replace H : (if t198 = true then (if 0 ≤ x3_2 then (if (wrap64 ((rd_T43 l0_0 x3_2).f0)) ≥ 58 then (some false) else (monikerref4_Shaped.l0 k2 (wrap64 (x3_2 + 1)) l0_0)) else (none)) else (some false)) = some r := H
              have A10 := Aside0.mk A100
              clear A100
              by_cases c11 : t198 = true
              · subst c11
                have H1 : (if 0 ≤ x3_2 then (if (wrap64 ((rd_T43 l0_0 x3_2).f0)) ≥ 58 then (some false) else (monikerref4_Shaped.l0 k2 (wrap64 (x3_2 + 1)) l0_0)) else (none)) = some r := by rw [if_pos rfl] at H; exact H
                clear H
                have H := H1
                clear H1
                by_cases c12 : 0 ≤ x3_2
                · rw [if_pos c12] at H
                  have c12b0 : decide (0 ≤ x3_2) = true := decide_eq_true c12
                  clear c12
                  by_cases c13 : (wrap64 ((rd_T43 l0_0 x3_2).f0)) ≥ 58
                  · rw [if_pos c13] at H
                    have c13b0 : decide (58 ≤ (wrap64 ((rd_T43 l0_0 x3_2).f0))) = true := decide_eq_true c13
                    clear c13
                    obtain rfl := Option.some.inj H
                    have hcz14_0 : wr.cell? ⟨gb193, 0, none⟩ = some (.slice A0_0 l0_0.length c0_0) := (blk_cell BK193.out 0).trans rfl
                    have hfz14_0 := blk_frozen BK193.out 0
                    go_wp2_with (first | (go_at_call 22; (with_reducible refine (monikerref4_Kids.calls k2 _ _ l0_0 x3_2 t195 true _ ?side1 ?side2 A10.out).mono ?_); (case side1 => repeat (first | exact (Kd.C_below HR0_0.out HB.out) | (with_reducible refine Kd.C_alloc ?_ _) | (with_reducible refine Kd.C_drewN ?_ _) | (with_reducible refine Kd.C_drew ?_))); (case side2 => exact HC0_0.out); rintro e w15 ⟨v196, rfl, ho0, hb⟩; have n0_ := Aside0.mk (Kd.R_lower ho0 (below_size (by repeat (first | (with_reducible first | exact HB.out | apply below_alloc | apply pw_below_drewN | apply below_drew1 | refine below_set ?_ GE193.out) | exact HB.out)))); have n1_ := Aside0.mk (blk_below (g := gb193) (o := .cells #[.slice A0_0 l0_0.length c0_0] 24 (0, 0)) (by (with_reducible repeat (first | refine blk_drewN ?_ _ | refine blk_drew ?_ | refine blk_alloc ?_ _)); exact BK193.out) hb); have n2_ := Aside0.mk (below_step (by repeat (first | (with_reducible first | exact HB.out | apply below_alloc | apply pw_below_drewN | apply below_drew1 | refine below_set ?_ GE193.out) | exact HB.out)) hb); clear BK193; clear HB; have HO197 := n0_; have BK193 := n1_; have HB := n2_; clear n0_ n1_ n2_; (try clear hb); (try clear hb2); (try clear hk); (try clear hi); (try clear ho0); have hcz16_0 : w15.cell? ⟨gb193, 0, none⟩ = some (.slice A0_0 l0_0.length c0_0) := (blk_cell BK193.out 0).trans rfl; have hfz16_0 := blk_frozen BK193.out 0; have p199 : 0 ≤ (x3_2 : Int) := of_decide_eq_true (by first | (with_reducible assumption) | assumption); have q199 : x3_2 < (l0_0.length : Int) := of_decide_eq_true (by first | (with_reducible assumption) | assumption); obtain ⟨ad199, e199, hx199_0, hx199_1, hx199_2, hx199_3⟩ := at_T43 HR0_0.out x3_2 p199 q199; cases e199; replace hx199_0 := (HB.out.cell (World.block_lt_of_cell? w _ hx199_0)).trans hx199_0; replace hx199_1 := (HB.out.cell (World.block_lt_of_cell? w _ hx199_1)).trans hx199_1; replace hx199_2 := (HB.out.cell (World.block_lt_of_cell? w _ hx199_2)).trans hx199_2; replace hx199_3 := (HB.out.cell (World.block_lt_of_cell? w _ hx199_3)).trans hx199_3; replace p199 := eq_true p199; replace q199 := eq_true q199))
                    repeat (go_quiet (first | (go_at_call 22; (with_reducible refine (monikerref4_Kids.calls k2 _ _ l0_0 x3_2 t195 true _ ?side1 ?side2 A10.out).mono ?_); (case side1 => repeat (first | exact (Kd.C_below HR0_0.out HB.out) | (with_reducible refine Kd.C_alloc ?_ _) | (with_reducible refine Kd.C_drewN ?_ _) | (with_reducible refine Kd.C_drew ?_))); (case side2 => exact HC0_0.out); rintro e w15 ⟨v196, rfl, ho0, hb⟩; have n0_ := Aside0.mk (Kd.R_lower ho0 (below_size (by repeat (first | (with_reducible first | exact HB.out | apply below_alloc | apply pw_below_drewN | apply below_drew1 | refine below_set ?_ GE193.out) | exact HB.out)))); have n1_ := Aside0.mk (blk_below (g := gb193) (o := .cells #[.slice A0_0 l0_0.length c0_0] 24 (0, 0)) (by (with_reducible repeat (first | refine blk_drewN ?_ _ | refine blk_drew ?_ | refine blk_alloc ?_ _)); exact BK193.out) hb); have n2_ := Aside0.mk (below_step (by repeat (first | (with_reducible first | exact HB.out | apply below_alloc | apply pw_below_drewN | apply below_drew1 | refine below_set ?_ GE193.out) | exact HB.out)) hb); clear BK193; clear HB; have HO197 := n0_; have BK193 := n1_; have HB := n2_; clear n0_ n1_ n2_; (try clear hb); (try clear hb2); (try clear hk); (try clear hi); (try clear ho0); have hcz16_0 : w15.cell? ⟨gb193, 0, none⟩ = some (.slice A0_0 l0_0.length c0_0) := (blk_cell BK193.out 0).trans rfl; have hfz16_0 := blk_frozen BK193.out 0; have p199 : 0 ≤ (x3_2 : Int) := of_decide_eq_true (by first | (with_reducible assumption) | assumption); have q199 : x3_2 < (l0_0.length : Int) := of_decide_eq_true (by first | (with_reducible assumption) | assumption); obtain ⟨ad199, e199, hx199_0, hx199_1, hx199_2, hx199_3⟩ := at_T43 HR0_0.out x3_2 p199 q199; cases e199; replace hx199_0 := (HB.out.cell (World.block_lt_of_cell? w _ hx199_0)).trans hx199_0; replace hx199_1 := (HB.out.cell (World.block_lt_of_cell? w _ hx199_1)).trans hx199_1; replace hx199_2 := (HB.out.cell (World.block_lt_of_cell? w _ hx199_2)).trans hx199_2; replace hx199_3 := (HB.out.cell (World.block_lt_of_cell? w _ hx199_3)).trans hx199_3; replace p199 := eq_true p199; replace q199 := eq_true q199)); try go_wp2_with (first | (go_at_call 22; (with_reducible refine (monikerref4_Kids.calls k2 _ _ l0_0 x3_2 t195 true _ ?side1 ?side2 A10.out).mono ?_); (case side1 => repeat (first | exact (Kd.C_below HR0_0.out HB.out) | (with_reducible refine Kd.C_alloc ?_ _) | (with_reducible refine Kd.C_drewN ?_ _) | (with_reducible refine Kd.C_drew ?_))); (case side2 => exact HC0_0.out); rintro e w15 ⟨v196, rfl, ho0, hb⟩; have n0_ := Aside0.mk (Kd.R_lower ho0 (below_size (by repeat (first | (with_reducible first | exact HB.out | apply below_alloc | apply pw_below_drewN | apply below_drew1 | refine below_set ?_ GE193.out) | exact HB.out)))); have n1_ := Aside0.mk (blk_below (g := gb193) (o := .cells #[.slice A0_0 l0_0.length c0_0] 24 (0, 0)) (by (with_reducible repeat (first | refine blk_drewN ?_ _ | refine blk_drew ?_ | refine blk_alloc ?_ _)); exact BK193.out) hb); have n2_ := Aside0.mk (below_step (by repeat (first | (with_reducible first | exact HB.out | apply below_alloc | apply pw_below_drewN | apply below_drew1 | refine below_set ?_ GE193.out) | exact HB.out)) hb); clear BK193; clear HB; have HO197 := n0_; have BK193 := n1_; have HB := n2_; clear n0_ n1_ n2_; (try clear hb); (try clear hb2); (try clear hk); (try clear hi); (try clear ho0); have hcz16_0 : w15.cell? ⟨gb193, 0, none⟩ = some (.slice A0_0 l0_0.length c0_0) := (blk_cell BK193.out 0).trans rfl; have hfz16_0 := blk_frozen BK193.out 0; have p199 : 0 ≤ (x3_2 : Int) := of_decide_eq_true (by first | (with_reducible assumption) | assumption); have q199 : x3_2 < (l0_0.length : Int) := of_decide_eq_true (by first | (with_reducible assumption) | assumption); obtain ⟨ad199, e199, hx199_0, hx199_1, hx199_2, hx199_3⟩ := at_T43 HR0_0.out x3_2 p199 q199; cases e199; replace hx199_0 := (HB.out.cell (World.block_lt_of_cell? w _ hx199_0)).trans hx199_0; replace hx199_1 := (HB.out.cell (World.block_lt_of_cell? w _ hx199_1)).trans hx199_1; replace hx199_2 := (HB.out.cell (World.block_lt_of_cell? w _ hx199_2)).trans hx199_2; replace hx199_3 := (HB.out.cell (World.block_lt_of_cell? w _ hx199_3)).trans hx199_3; replace p199 := eq_true p199; replace q199 := eq_true q199)))
                    go_ret
                    exact ⟨by first | rfl | (simp [errW_none, errW_some] <;> rfl) | (simp [*, errW_none, errW_some] <;> rfl), by repeat (first | (with_reducible first | exact HB.out | apply below_alloc | apply pw_below_drewN | apply below_drew1 | refine below_set ?_ GE193.out) | exact HB.out)⟩
                  · rw [if_neg c13] at H
                    have c13b0 : decide (58 ≤ (wrap64 ((rd_T43 l0_0 x3_2).f0))) = false := decide_eq_false c13
                    clear c13
                    have H' := Aside0.mk H
                    clear H
                    have hcz17_0 : wr.cell? ⟨gb193, 0, none⟩ = some (.slice A0_0 l0_0.length c0_0) := (blk_cell BK193.out 0).trans rfl
                    have hfz17_0 := blk_frozen BK193.out 0
                    go_wp2_with (first | (go_at_call 22; (with_reducible refine (monikerref4_Kids.calls k2 _ _ l0_0 x3_2 t195 true _ ?side1 ?side2 A10.out).mono ?_); (case side1 => repeat (first | exact (Kd.C_below HR0_0.out HB.out) | (with_reducible refine Kd.C_alloc ?_ _) | (with_reducible refine Kd.C_drewN ?_ _) | (with_reducible refine Kd.C_drew ?_))); (case side2 => exact HC0_0.out); rintro e w18 ⟨v196, rfl, ho0, hb⟩; have n0_ := Aside0.mk (Kd.R_lower ho0 (below_size (by repeat (first | (with_reducible first | exact HB.out | apply below_alloc | apply pw_below_drewN | apply below_drew1 | refine below_set ?_ GE193.out) | exact HB.out)))); have n1_ := Aside0.mk (blk_below (g := gb193) (o := .cells #[.slice A0_0 l0_0.length c0_0] 24 (0, 0)) (by (with_reducible repeat (first | refine blk_drewN ?_ _ | refine blk_drew ?_ | refine blk_alloc ?_ _)); exact BK193.out) hb); have n2_ := Aside0.mk (below_step (by repeat (first | (with_reducible first | exact HB.out | apply below_alloc | apply pw_below_drewN | apply below_drew1 | refine below_set ?_ GE193.out) | exact HB.out)) hb); clear BK193; clear HB; have HO197 := n0_; have BK193 := n1_; have HB := n2_; clear n0_ n1_ n2_; (try clear hb); (try clear hb2); (try clear hk); (try clear hi); (try clear ho0); have hcz19_0 : w18.cell? ⟨gb193, 0, none⟩ = some (.slice A0_0 l0_0.length c0_0) := (blk_cell BK193.out 0).trans rfl; have hfz19_0 := blk_frozen BK193.out 0; have p199 : 0 ≤ (x3_2 : Int) := of_decide_eq_true (by first | (with_reducible assumption) | assumption); have q199 : x3_2 < (l0_0.length : Int) := of_decide_eq_true (by first | (with_reducible assumption) | assumption); obtain ⟨ad199, e199, hx199_0, hx199_1, hx199_2, hx199_3⟩ := at_T43 HR0_0.out x3_2 p199 q199; cases e199; replace hx199_0 := (HB.out.cell (World.block_lt_of_cell? w _ hx199_0)).trans hx199_0; replace hx199_1 := (HB.out.cell (World.block_lt_of_cell? w _ hx199_1)).trans hx199_1; replace hx199_2 := (HB.out.cell (World.block_lt_of_cell? w _ hx199_2)).trans hx199_2; replace hx199_3 := (HB.out.cell (World.block_lt_of_cell? w _ hx199_3)).trans hx199_3; replace p199 := eq_true p199; replace q199 := eq_true q199))
                    repeat (go_quiet (first | (go_at_call 22; (with_reducible refine (monikerref4_Kids.calls k2 _ _ l0_0 x3_2 t195 true _ ?side1 ?side2 A10.out).mono ?_); (case side1 => repeat (first | exact (Kd.C_below HR0_0.out HB.out) | (with_reducible refine Kd.C_alloc ?_ _) | (with_reducible refine Kd.C_drewN ?_ _) | (with_reducible refine Kd.C_drew ?_))); (case side2 => exact HC0_0.out); rintro e w18 ⟨v196, rfl, ho0, hb⟩; have n0_ := Aside0.mk (Kd.R_lower ho0 (below_size (by repeat (first | (with_reducible first | exact HB.out | apply below_alloc | apply pw_below_drewN | apply below_drew1 | refine below_set ?_ GE193.out) | exact HB.out)))); have n1_ := Aside0.mk (blk_below (g := gb193) (o := .cells #[.slice A0_0 l0_0.length c0_0] 24 (0, 0)) (by (with_reducible repeat (first | refine blk_drewN ?_ _ | refine blk_drew ?_ | refine blk_alloc ?_ _)); exact BK193.out) hb); have n2_ := Aside0.mk (below_step (by repeat (first | (with_reducible first | exact HB.out | apply below_alloc | apply pw_below_drewN | apply below_drew1 | refine below_set ?_ GE193.out) | exact HB.out)) hb); clear BK193; clear HB; have HO197 := n0_; have BK193 := n1_; have HB := n2_; clear n0_ n1_ n2_; (try clear hb); (try clear hb2); (try clear hk); (try clear hi); (try clear ho0); have hcz19_0 : w18.cell? ⟨gb193, 0, none⟩ = some (.slice A0_0 l0_0.length c0_0) := (blk_cell BK193.out 0).trans rfl; have hfz19_0 := blk_frozen BK193.out 0; have p199 : 0 ≤ (x3_2 : Int) := of_decide_eq_true (by first | (with_reducible assumption) | assumption); have q199 : x3_2 < (l0_0.length : Int) := of_decide_eq_true (by first | (with_reducible assumption) | assumption); obtain ⟨ad199, e199, hx199_0, hx199_1, hx199_2, hx199_3⟩ := at_T43 HR0_0.out x3_2 p199 q199; cases e199; replace hx199_0 := (HB.out.cell (World.block_lt_of_cell? w _ hx199_0)).trans hx199_0; replace hx199_1 := (HB.out.cell (World.block_lt_of_cell? w _ hx199_1)).trans hx199_1; replace hx199_2 := (HB.out.cell (World.block_lt_of_cell? w _ hx199_2)).trans hx199_2; replace hx199_3 := (HB.out.cell (World.block_lt_of_cell? w _ hx199_3)).trans hx199_3; replace p199 := eq_true p199; replace q199 := eq_true q199)); try go_wp2_with (first | (go_at_call 22; (with_reducible refine (monikerref4_Kids.calls k2 _ _ l0_0 x3_2 t195 true _ ?side1 ?side2 A10.out).mono ?_); (case side1 => repeat (first | exact (Kd.C_below HR0_0.out HB.out) | (with_reducible refine Kd.C_alloc ?_ _) | (with_reducible refine Kd.C_drewN ?_ _) | (with_reducible refine Kd.C_drew ?_))); (case side2 => exact HC0_0.out); rintro e w18 ⟨v196, rfl, ho0, hb⟩; have n0_ := Aside0.mk (Kd.R_lower ho0 (below_size (by repeat (first | (with_reducible first | exact HB.out | apply below_alloc | apply pw_below_drewN | apply below_drew1 | refine below_set ?_ GE193.out) | exact HB.out)))); have n1_ := Aside0.mk (blk_below (g := gb193) (o := .cells #[.slice A0_0 l0_0.length c0_0] 24 (0, 0)) (by (with_reducible repeat (first | refine blk_drewN ?_ _ | refine blk_drew ?_ | refine blk_alloc ?_ _)); exact BK193.out) hb); have n2_ := Aside0.mk (below_step (by repeat (first | (with_reducible first | exact HB.out | apply below_alloc | apply pw_below_drewN | apply below_drew1 | refine below_set ?_ GE193.out) | exact HB.out)) hb); clear BK193; clear HB; have HO197 := n0_; have BK193 := n1_; have HB := n2_; clear n0_ n1_ n2_; (try clear hb); (try clear hb2); (try clear hk); (try clear hi); (try clear ho0); have hcz19_0 : w18.cell? ⟨gb193, 0, none⟩ = some (.slice A0_0 l0_0.length c0_0) := (blk_cell BK193.out 0).trans rfl; have hfz19_0 := blk_frozen BK193.out 0; have p199 : 0 ≤ (x3_2 : Int) := of_decide_eq_true (by first | (with_reducible assumption) | assumption); have q199 : x3_2 < (l0_0.length : Int) := of_decide_eq_true (by first | (with_reducible assumption) | assumption); obtain ⟨ad199, e199, hx199_0, hx199_1, hx199_2, hx199_3⟩ := at_T43 HR0_0.out x3_2 p199 q199; cases e199; replace hx199_0 := (HB.out.cell (World.block_lt_of_cell? w _ hx199_0)).trans hx199_0; replace hx199_1 := (HB.out.cell (World.block_lt_of_cell? w _ hx199_1)).trans hx199_1; replace hx199_2 := (HB.out.cell (World.block_lt_of_cell? w _ hx199_2)).trans hx199_2; replace hx199_3 := (HB.out.cell (World.block_lt_of_cell? w _ hx199_3)).trans hx199_3; replace p199 := eq_true p199; replace q199 := eq_true q199)))
                    go_roundg k2
                    case measure => have := HJ1.out; have := HK2.out; omega
                    case rel => exact ⟨(wrap64 (x3_2 + 1)), (by first | rfl | (simp; done) | (simp [*]; done)), H', ⟨by have := HJ1.out; have := HK2.out; omega⟩, ⟨by (with_reducible repeat (first | refine blk_drewN ?_ _ | refine blk_drew ?_ | refine blk_alloc ?_ _)); exact BK193.out⟩, ⟨by repeat (first | (with_reducible first | exact HB.out | apply below_alloc | apply pw_below_drewN | apply below_drew1 | refine below_set ?_ GE193.out) | exact HB.out)⟩⟩
                · rw [if_neg c12] at H
                  exact absurd H (by simp)
              · replace c11 := Bool.eq_false_iff.mpr c11
                subst c11
                have H1 : (some false) = some r := by rw [if_neg (show ¬ (false = true) by decide)] at H; exact H
                clear H
                have H := H1
                clear H1
                obtain rfl := Option.some.inj H
                have hcz20_0 : wr.cell? ⟨gb193, 0, none⟩ = some (.slice A0_0 l0_0.length c0_0) := (blk_cell BK193.out 0).trans rfl
                have hfz20_0 := blk_frozen BK193.out 0
                go_wp2_with (first | (go_at_call 22; (with_reducible refine (monikerref4_Kids.calls k2 _ _ l0_0 x3_2 t195 false _ ?side1 ?side2 A10.out).mono ?_); (case side1 => repeat (first | exact (Kd.C_below HR0_0.out HB.out) | (with_reducible refine Kd.C_alloc ?_ _) | (with_reducible refine Kd.C_drewN ?_ _) | (with_reducible refine Kd.C_drew ?_))); (case side2 => exact HC0_0.out); rintro e w21 ⟨v196, rfl, ho0, hb⟩; have n0_ := Aside0.mk (Kd.R_lower ho0 (below_size (by repeat (first | (with_reducible first | exact HB.out | apply below_alloc | apply pw_below_drewN | apply below_drew1 | refine below_set ?_ GE193.out) | exact HB.out)))); have n1_ := Aside0.mk (blk_below (g := gb193) (o := .cells #[.slice A0_0 l0_0.length c0_0] 24 (0, 0)) (by (with_reducible repeat (first | refine blk_drewN ?_ _ | refine blk_drew ?_ | refine blk_alloc ?_ _)); exact BK193.out) hb); have n2_ := Aside0.mk (below_step (by repeat (first | (with_reducible first | exact HB.out | apply below_alloc | apply pw_below_drewN | apply below_drew1 | refine below_set ?_ GE193.out) | exact HB.out)) hb); clear BK193; clear HB; have HO197 := n0_; have BK193 := n1_; have HB := n2_; clear n0_ n1_ n2_; (try clear hb); (try clear hb2); (try clear hk); (try clear hi); (try clear ho0)))
                repeat (go_quiet (first | (go_at_call 22; (with_reducible refine (monikerref4_Kids.calls k2 _ _ l0_0 x3_2 t195 false _ ?side1 ?side2 A10.out).mono ?_); (case side1 => repeat (first | exact (Kd.C_below HR0_0.out HB.out) | (with_reducible refine Kd.C_alloc ?_ _) | (with_reducible refine Kd.C_drewN ?_ _) | (with_reducible refine Kd.C_drew ?_))); (case side2 => exact HC0_0.out); rintro e w21 ⟨v196, rfl, ho0, hb⟩; have n0_ := Aside0.mk (Kd.R_lower ho0 (below_size (by repeat (first | (with_reducible first | exact HB.out | apply below_alloc | apply pw_below_drewN | apply below_drew1 | refine below_set ?_ GE193.out) | exact HB.out)))); have n1_ := Aside0.mk (blk_below (g := gb193) (o := .cells #[.slice A0_0 l0_0.length c0_0] 24 (0, 0)) (by (with_reducible repeat (first | refine blk_drewN ?_ _ | refine blk_drew ?_ | refine blk_alloc ?_ _)); exact BK193.out) hb); have n2_ := Aside0.mk (below_step (by repeat (first | (with_reducible first | exact HB.out | apply below_alloc | apply pw_below_drewN | apply below_drew1 | refine below_set ?_ GE193.out) | exact HB.out)) hb); clear BK193; clear HB; have HO197 := n0_; have BK193 := n1_; have HB := n2_; clear n0_ n1_ n2_; (try clear hb); (try clear hb2); (try clear hk); (try clear hi); (try clear ho0))); try go_wp2_with (first | (go_at_call 22; (with_reducible refine (monikerref4_Kids.calls k2 _ _ l0_0 x3_2 t195 false _ ?side1 ?side2 A10.out).mono ?_); (case side1 => repeat (first | exact (Kd.C_below HR0_0.out HB.out) | (with_reducible refine Kd.C_alloc ?_ _) | (with_reducible refine Kd.C_drewN ?_ _) | (with_reducible refine Kd.C_drew ?_))); (case side2 => exact HC0_0.out); rintro e w21 ⟨v196, rfl, ho0, hb⟩; have n0_ := Aside0.mk (Kd.R_lower ho0 (below_size (by repeat (first | (with_reducible first | exact HB.out | apply below_alloc | apply pw_below_drewN | apply below_drew1 | refine below_set ?_ GE193.out) | exact HB.out)))); have n1_ := Aside0.mk (blk_below (g := gb193) (o := .cells #[.slice A0_0 l0_0.length c0_0] 24 (0, 0)) (by (with_reducible repeat (first | refine blk_drewN ?_ _ | refine blk_drew ?_ | refine blk_alloc ?_ _)); exact BK193.out) hb); have n2_ := Aside0.mk (below_step (by repeat (first | (with_reducible first | exact HB.out | apply below_alloc | apply pw_below_drewN | apply below_drew1 | refine below_set ?_ GE193.out) | exact HB.out)) hb); clear BK193; clear HB; have HO197 := n0_; have BK193 := n1_; have HB := n2_; clear n0_ n1_ n2_; (try clear hb); (try clear hb2); (try clear hk); (try clear hi); (try clear ho0))))
                go_ret
                exact ⟨by first | rfl | (simp [errW_none, errW_some] <;> rfl) | (simp [*, errW_none, errW_some] <;> rfl), by repeat (first | (with_reducible first | exact HB.out | apply below_alloc | apply pw_below_drewN | apply below_drew1 | refine below_set ?_ GE193.out) | exact HB.out)⟩
            · rw [if_neg c9] at H
              have c9b0 : decide (x3_2 < (l0_0.length : Int)) = false := decide_eq_false c9
              clear c9
              obtain rfl := Option.some.inj H
              have hcz22_0 : wr.cell? ⟨gb193, 0, none⟩ = some (.slice A0_0 l0_0.length c0_0) := (blk_cell BK193.out 0).trans rfl
              have hfz22_0 := blk_frozen BK193.out 0
              go_wp2
              repeat (go_quiet (fail); try go_wp2)
              go_ret
              exact ⟨by first | rfl | (simp [errW_none, errW_some] <;> rfl) | (simp [*, errW_none, errW_some] <;> rfl), by repeat (first | (with_reducible first | exact HB.out | apply below_alloc | apply pw_below_drewN | apply below_drew1 | refine below_set ?_ GE193.out) | exact HB.out)⟩

end Go.Proofs.YtodldpdnhcafpaaDoor.F

-- A text of this session's own program (wip/myprint.sh over a changed print tool): functions and their walks
namespace Go.Proofs.YtodldpdnhcafpaaDoor.F
open Go.RowKit Go.Proofs.YtodldpdnhcafpaaDoorW.PrintWords Go.Proofs.YtodldpdnhcafpaaDoorW.PrintLast Go.Proofs.YtodldpdnhcafpaaDoorW.PrintMore
attribute [local go_sem] max2_int min2_int max_two min_two max_three min_three max_four min_four   -- for this text's walks alone
set_option linter.unusedVariables false
set_option linter.unusedSimpArgs false

/-! ### tree_shaped: function 38 -/
mutual
def tree_shaped.j0 : Nat → Bool → List (S43) → Option (Bool)
  | 0, _, _ => none
  | k + 1, x21, x169000 => if x21 = true then (some false) else (tree_shaped.l0 k ([] : List Int) x169000 (x169000.length : Int) 0 x169000)
def tree_shaped.l0 : Nat → List Int → List (S43) → Int → Int → List (S43) → Option (Bool)
  | 0, _, _, _, _, _ => none
  | k + 1, x3, x23, x24, x25, x169000 => if x25 < x24 then (if 0 ≤ x25 then (if x25 < (x23.length : Int) then (tree_shaped.l1 k x3 x25 x23 x24 x25 x169000 ((rd_T43 x23 x25).f0) ((rd_T43 x23 x25).f1) ((rd_T43 x23 x25).f2) ((rd_T43 x23 x25).f3)) else (none)) else (none)) else (some true)
def tree_shaped.j3 : Nat → List Int → Int → List (S43) → Int → Int → List (S43) → Int → Int → Int → Int → Option (Bool)
  | 0, _, _, _, _, _, _, _, _, _, _ => none
  | k + 1, x3, x4, x23, x24, x25, x169000, x172000, x172001, x172002, x172003 => if (x3.length : Int) > 0 then (if 0 ≤ (wrap64 ((x3.length : Int) - 1)) then (if (wrap64 ((x3.length : Int) - 1)) < (x3.length : Int) then (if x172000 ≥ 58 then (some false) else (if x172003 < 1 then (some false) else (if x172003 > (wrap64 ((rd x3 (wrap64 ((x3.length : Int) - 1))) - x4)) then (some false) else (if x3.length < 17592186044416 then (tree_shaped.l0 k (x3 ++ [wrap64 (x4 + x172003)]) x23 x24 (wrap64 (x25 + 1)) x169000) else (none))))) else (none)) else (none)) else (if x172000 ≥ 58 then (some false) else (if x172003 < 1 then (some false) else (if x172003 > (wrap64 ((x169000.length : Int) - x4)) then (some false) else (if x3.length < 17592186044416 then (tree_shaped.l0 k (x3 ++ [wrap64 (x4 + x172003)]) x23 x24 (wrap64 (x25 + 1)) x169000) else (none)))))
def tree_shaped.l1 : Nat → List Int → Int → List (S43) → Int → Int → List (S43) → Int → Int → Int → Int → Option (Bool)
  | 0, _, _, _, _, _, _, _, _, _, _ => none
  | k + 1, x3, x4, x23, x24, x25, x169000, x172000, x172001, x172002, x172003 => if (x3.length : Int) > 0 then (if 0 ≤ (wrap64 ((x3.length : Int) - 1)) then (if (wrap64 ((x3.length : Int) - 1)) < (x3.length : Int) then (if (rd x3 (wrap64 ((x3.length : Int) - 1))) = x4 then (if (wrap64 ((x3.length : Int) - 1)) ≤ (x3.length : Int) then (tree_shaped.l1 k (x3.take ((wrap64 ((x3.length : Int) - 1)) : Int).toNat) x4 x23 x24 x25 x169000 x172000 x172001 x172002 x172003) else (none)) else (tree_shaped.j3 k x3 x4 x23 x24 x25 x169000 x172000 x172001 x172002 x172003)) else (none)) else (none)) else (tree_shaped.j3 k x3 x4 x23 x24 x25 x169000 x172000 x172001 x172002 x172003)
end
def tree_shaped.f (k : Nat) (l0_0 : List (S43)) : Option (Bool) := if (l0_0.length : Int) = 0 then (tree_shaped.j0 k true l0_0) else (if 0 < (l0_0.length : Int) then (tree_shaped.j0 k (((rd_T43 l0_0 0).f3) != (l0_0.length : Int)) l0_0) else (none))
set_option maxHeartbeats 8000000 in
set_option maxRecDepth 100000 in
theorem tree_shaped.calls (k : Nat) (A0_0 : Option Addr) (c0_0 : Nat) (l0_0 : List (S43)) (r : Bool) (w : World) (hr0_0 : Kd.C k43 w A0_0 l0_0.length l0_0) (hc0_0 : l0_0.length ≤ c0_0) (h : tree_shaped.f k l0_0 = some r) :
    Calls Tryd.prog 38 #[.agg #[.slice A0_0 l0_0.length c0_0]] w fun e w' => e = .returned (.bool r) ∧ Below w.heap.size w w' := by
  have hu24 := Tryd.underlying24
  have hu43 := Tryd.underlying43
  have HR0_0 := Aside0.mk hr0_0
  have HC0_0 := Aside0.mk hc0_0
  clear hr0_0 hc0_0
  have HB := Aside0.mk (Below.refl w.heap.size w)
  have H : (if (l0_0.length : Int) = 0 then (tree_shaped.j0 k true l0_0) else (if 0 < (l0_0.length : Int) then (tree_shaped.j0 k (((rd_T43 l0_0 0).f3) != (l0_0.length : Int)) l0_0) else (none))) = some r := h
  clear h
  have HC2 := Aside0.mk H
  clear H
  go_enter Tryd.func38, Tryd.ntmps38
  go_upto_region 1 with (first | ((with_reducible refine gate_dst (N := 1) rfl ?_); (try (refine gate_guard (by rfl) ?_; dsimp only)); refine box_event ?hg (N := 1) ?hd (cs := #[.slice A0_0 l0_0.length c0_0]) (t := 24) ?hr ?_; (case hd => rfl); (case hg => rfl); (case hr => first | (go_simp; done) | (go_simp; rfl)); intro gb168 hg w3 hbox hb; have n0_ := Aside0.mk (below_step (by repeat (first | (with_reducible first | exact HB.out | apply below_alloc | apply pw_below_drewN | apply below_drew1) | exact HB.out)) hb); have n1_ := Aside0.mk (hbox); have n2_ := Aside0.mk ((by rw [hg]; exact (below_size (by repeat (first | (with_reducible first | exact HB.out | apply below_alloc | apply pw_below_drewN | apply below_drew1) | exact HB.out))) : w.heap.size ≤ gb168)); have n3_ := Aside0.mk ((by rw [hg]; exact (below_size (by repeat (first | (with_reducible first | exact HB.out | apply below_alloc | apply pw_below_drewN | apply below_drew1) | exact HB.out))) : w.heap.size ≤ gb168)); clear HB; have HB := n0_; have BK168 := n1_; have GW168 := n2_; have GE168 := n3_; clear n0_ n1_ n2_ n3_; clear hb hbox hg))
  repeat (go_quiet (first | ((with_reducible refine gate_dst (N := 1) rfl ?_); (try (refine gate_guard (by rfl) ?_; dsimp only)); refine box_event ?hg (N := 1) ?hd (cs := #[.slice A0_0 l0_0.length c0_0]) (t := 24) ?hr ?_; (case hd => rfl); (case hg => rfl); (case hr => first | (go_simp; done) | (go_simp; rfl)); intro gb168 hg w3 hbox hb; have n0_ := Aside0.mk (below_step (by repeat (first | (with_reducible first | exact HB.out | apply below_alloc | apply pw_below_drewN | apply below_drew1) | exact HB.out)) hb); have n1_ := Aside0.mk (hbox); have n2_ := Aside0.mk ((by rw [hg]; exact (below_size (by repeat (first | (with_reducible first | exact HB.out | apply below_alloc | apply pw_below_drewN | apply below_drew1) | exact HB.out))) : w.heap.size ≤ gb168)); have n3_ := Aside0.mk ((by rw [hg]; exact (below_size (by repeat (first | (with_reducible first | exact HB.out | apply below_alloc | apply pw_below_drewN | apply below_drew1) | exact HB.out))) : w.heap.size ≤ gb168)); clear HB; have HB := n0_; have BK168 := n1_; have GW168 := n2_; have GE168 := n3_; clear n0_ n1_ n2_ n3_; clear hb hbox hg)); go_upto_region 1 with (first | ((with_reducible refine gate_dst (N := 1) rfl ?_); (try (refine gate_guard (by rfl) ?_; dsimp only)); refine box_event ?hg (N := 1) ?hd (cs := #[.slice A0_0 l0_0.length c0_0]) (t := 24) ?hr ?_; (case hd => rfl); (case hg => rfl); (case hr => first | (go_simp; done) | (go_simp; rfl)); intro gb168 hg w3 hbox hb; have n0_ := Aside0.mk (below_step (by repeat (first | (with_reducible first | exact HB.out | apply below_alloc | apply pw_below_drewN | apply below_drew1) | exact HB.out)) hb); have n1_ := Aside0.mk (hbox); have n2_ := Aside0.mk ((by rw [hg]; exact (below_size (by repeat (first | (with_reducible first | exact HB.out | apply below_alloc | apply pw_below_drewN | apply below_drew1) | exact HB.out))) : w.heap.size ≤ gb168)); have n3_ := Aside0.mk ((by rw [hg]; exact (below_size (by repeat (first | (with_reducible first | exact HB.out | apply below_alloc | apply pw_below_drewN | apply below_drew1) | exact HB.out))) : w.heap.size ≤ gb168)); clear HB; have HB := n0_; have BK168 := n1_; have GW168 := n2_; have GE168 := n3_; clear n0_ n1_ n2_ n3_; clear hb hbox hg)))
  (try simp only [Act.put, List.setIfInBounds_toArray, List.set_cons_zero, List.set_cons_succ])
  go_cut [21] (fun v21 wc => ∃ (kq : Nat) (x21_1 : Bool), v21 = .bool x21_1 ∧ Aside0 (tree_shaped.j0 kq x21_1 l0_0 = some r) ∧ Aside0 (kq ≤ k) ∧ Aside0 (wc.heap[gb168]? = some (.cells #[(.slice A0_0 l0_0.length c0_0)] 24 (0, 0))) ∧ Aside0 (Below w.heap.size w wc))
  case first =>
    have H := HC2.out
    clear HC2
    by_cases c4 : (l0_0.length : Int) = 0
    · rw [if_pos c4] at H
      have c4b0 : ((l0_0.length : Int) == 0) = true := beq_iff_eq.mpr c4
      have c4b1 : ((l0_0.length : Int) != 0) = false := bne_eq_false_iff_eq.mpr c4
      clear c4
      (first | rw [c4b0] | (simp only [i64_w, i32_w]; rw [c4b0]) | skip)
      have H' := Aside0.mk H
      clear H
      have hcz5_0 : w3.cell? ⟨gb168, 0, none⟩ = some (.slice A0_0 l0_0.length c0_0) := (blk_cell BK168.out 0).trans rfl
      have hfz5_0 := blk_frozen BK168.out 0
      go_wp2
      repeat (go_quiet (fail); try go_wp2)
      go_meet
      case rel => exact ⟨_, (true), (by first | rfl | (simp; done) | (simp [*]; done)), H', ⟨by first | omega | exact Nat.le_refl _⟩, ⟨by (with_reducible repeat (first | refine blk_drewN ?_ _ | refine blk_drew ?_ | refine blk_alloc ?_ _)); exact BK168.out⟩, ⟨by repeat (first | (with_reducible first | exact HB.out | apply below_alloc | apply pw_below_drewN | apply below_drew1 | refine below_set ?_ GE168.out) | exact HB.out)⟩⟩
    · rw [if_neg c4] at H
      have c4b0 : ((l0_0.length : Int) == 0) = false := beq_eq_false_iff_ne.mpr c4
      have c4b1 : ((l0_0.length : Int) != 0) = true := bne_iff_ne.mpr c4
      have c4b2 : ¬ (l0_0 = []) := fun h_ => c4 (by rw [h_]; rfl)
      (first | rw [c4b0] | (simp only [i64_w, i32_w]; rw [c4b0]) | skip)
      by_cases c6 : 0 < (l0_0.length : Int)
      · rw [if_pos c6] at H
        have c6b0 : decide (0 < (l0_0.length : Int)) = true := decide_eq_true c6
        have c6b1 : decide (0 < l0_0.length) = true := decide_eq_true (by omega)
        clear c6
        have H' := Aside0.mk H
        clear H
        have hcz7_0 : w3.cell? ⟨gb168, 0, none⟩ = some (.slice A0_0 l0_0.length c0_0) := (blk_cell BK168.out 0).trans rfl
        have hfz7_0 := blk_frozen BK168.out 0
        have p169 : 0 ≤ (0 : Int) := (by omega)
        have q169 : 0 < (l0_0.length : Int) := of_decide_eq_true (by first | (with_reducible assumption) | assumption)
        obtain ⟨ad169, e169, hx169_0, hx169_1, hx169_2, hx169_3⟩ := at_T43 HR0_0.out 0 p169 q169
        cases e169
        have qi169 : (0 < l0_0.length) = True := eq_true (by omega)
        (try rw [show ((0 : Int)).toNat = 0 from rfl] at hx169_0)
        (try rw [show 0 * 4 = 0 from rfl] at hx169_0)
        (try rw [Addr.add_zero'] at hx169_0)
        (try rw [show ((0 : Int)).toNat = 0 from rfl] at hx169_1)
        (try rw [show 0 * 4 = 0 from rfl] at hx169_1)
        (try rw [Addr.add_zero'] at hx169_1)
        (try rw [show ((0 : Int)).toNat = 0 from rfl] at hx169_2)
        (try rw [show 0 * 4 = 0 from rfl] at hx169_2)
        (try rw [Addr.add_zero'] at hx169_2)
        (try rw [show ((0 : Int)).toNat = 0 from rfl] at hx169_3)
        (try rw [show 0 * 4 = 0 from rfl] at hx169_3)
        (try rw [Addr.add_zero'] at hx169_3)
        replace hx169_0 := (HB.out.cell (World.block_lt_of_cell? w _ hx169_0)).trans hx169_0
        replace hx169_1 := (HB.out.cell (World.block_lt_of_cell? w _ hx169_1)).trans hx169_1
        replace hx169_2 := (HB.out.cell (World.block_lt_of_cell? w _ hx169_2)).trans hx169_2
        replace hx169_3 := (HB.out.cell (World.block_lt_of_cell? w _ hx169_3)).trans hx169_3
        replace p169 := eq_true p169
        replace q169 := eq_true q169
        go_wp2
        repeat (go_quiet (fail); try go_wp2)
        go_meet
        case rel => exact ⟨_, ((((rd_T43 l0_0 0).f3) != (l0_0.length : Int))), (by first | rfl | (simp; done) | (simp [*]; done)), H', ⟨by first | omega | exact Nat.le_refl _⟩, ⟨by (with_reducible repeat (first | refine blk_drewN ?_ _ | refine blk_drew ?_ | refine blk_alloc ?_ _)); exact BK168.out⟩, ⟨by repeat (first | (with_reducible first | exact HB.out | apply below_alloc | apply pw_below_drewN | apply below_drew1 | refine below_set ?_ GE168.out) | exact HB.out)⟩⟩
      · rw [if_neg c6] at H
        exact absurd H (by simp)
  case rest =>
    clear HC2
    try clear p1
    try clear q1
    try clear hx1
    try clear qi1
    try clear p2
    try clear c3
    try clear c4
    try clear c4b0
    try clear c4b1
    try clear c4b2
    try clear c6
    try clear c6b0
    try clear c6b1
    try clear hcz5_0
    try clear hcz7_0
    try clear hfz5_0
    try clear hfz7_0
    try clear hx169_0
    try clear hx169_1
    try clear hx169_2
    try clear hx169_3
    try clear p169
    try clear q169
    obtain ⟨kq, x21_1, rfl, HA, HJ1, BK168, HB⟩ := hcut
    cases kq with
    | zero => exact absurd HA.out (by simp [tree_shaped.j0])
    | succ kj1 =>
      have H := HA.out
      clear HA
      simp only [tree_shaped.j0] at H
      by_cases c8 : x21_1 = true
      · subst c8
        have H1 : (some false) = some r := by rw [if_pos rfl] at H; exact H
        clear H
        have H := H1
        clear H1
        obtain rfl := Option.some.inj H
        go_wp2
        repeat (go_quiet (fail); try go_wp2)
        go_ret
        exact ⟨by first | rfl | (simp [errW_none, errW_some] <;> rfl) | (simp [*, errW_none, errW_some] <;> rfl), by repeat (first | (with_reducible first | exact HB.out | apply below_alloc | apply pw_below_drewN | apply below_drew1 | refine below_set ?_ GE168.out) | exact HB.out)⟩
      · replace c8 := Bool.eq_false_iff.mpr c8
        subst c8
        have H1 : (tree_shaped.l0 kj1 ([] : List Int) l0_0 (l0_0.length : Int) 0 l0_0) = some r := by rw [if_neg (show ¬ (false = true) by decide)] at H; exact H
        clear H
        have H := H1
        clear H1
        have H' := Aside0.mk H
        clear H
        have hcz9_0 : wc.cell? ⟨gb168, 0, none⟩ = some (.slice A0_0 l0_0.length c0_0) := (blk_cell BK168.out 0).trans rfl
        have hfz9_0 := blk_frozen BK168.out 0
        go_wp2
        repeat (go_quiet (fail); try go_wp2)
        go_loopg [3, 25] kj1 (fun kq v3 v25 w' => ∃ (x3_2 : List Int) (x25_2 : Int), v25 = .int .i64 x25_2 ∧ Aside0 (tree_shaped.l0 kq x3_2 l0_0 (l0_0.length : Int) x25_2 l0_0 = some r) ∧ Aside0 (kq ≤ kj1) ∧ Aside0 (Kd.R (Kd.int .i64) 3 w' w.heap.size (fun _ => True) v3 x3_2) ∧ Aside0 (w'.heap[gb168]? = some (.cells #[(.slice A0_0 l0_0.length c0_0)] 24 (0, 0))) ∧ Aside0 (Below w.heap.size w w'))
        case atStart => exact ⟨(([] : List Int)), (0), (by first | rfl | (simp; done) | (simp [*]; done)), H', ⟨Nat.le_refl _⟩, ⟨by first | exact Kd.R_nil _ _ _ _ _ | exact Kd.N_nil _ _ _ _ _ | exact Kd.V_nil _ _ _ _ _ | exact Kd.Q_nil _ _ _ _ _ | exact Kd.S_nil _ _ _ _ _⟩, ⟨by (with_reducible repeat (first | refine blk_drewN ?_ _ | refine blk_drew ?_ | refine blk_alloc ?_ _)); exact BK168.out⟩, ⟨by repeat (first | (with_reducible first | exact HB.out | apply below_alloc | apply pw_below_drewN | apply below_drew1 | refine below_set ?_ GE168.out) | exact HB.out)⟩⟩
        case round =>
          clear H'
          try clear p1
          try clear q1
          try clear hx1
          try clear qi1
          try clear p2
          try clear c3
          try clear c4
          try clear c4b0
          try clear c4b1
          try clear c4b2
          try clear c6
          try clear c6b0
          try clear c6b1
          try clear c8
          try clear hcz5_0
          try clear hcz7_0
          try clear hcz9_0
          try clear hfz5_0
          try clear hfz7_0
          try clear hfz9_0
          try clear hx169_0
          try clear hx169_1
          try clear hx169_2
          try clear hx169_3
          try clear p1
          try clear p169
          try clear p2
          try clear q1
          try clear q169
          obtain ⟨x3_2, x25_2, rfl, HA, HK2, HO_3, BK168, HB⟩ := hrel
          cases gk with
          | zero => exact absurd HA.out (by simp [tree_shaped.l0])
          | succ k2 =>
            have H := HA.out
            clear HA
            simp only [tree_shaped.l0] at H
            by_cases c10 : x25_2 < (l0_0.length : Int)
            · rw [if_pos c10] at H
              have c10b0 : decide (x25_2 < (l0_0.length : Int)) = true := decide_eq_true c10
              clear c10
              by_cases c11 : 0 ≤ x25_2
              · rw [if_pos c11] at H
                have c11b0 : decide (0 ≤ x25_2) = true := decide_eq_true c11
                clear c11
                by_cases c12 : x25_2 < (l0_0.length : Int)
                · rw [if_pos c12] at H
                  have c12b0 : decide (x25_2 < (l0_0.length : Int)) = true := decide_eq_true c12
                  clear c12
                  have HC13 := Aside0.mk H
                  clear H
                  have p170 : 0 ≤ (x25_2 : Int) := of_decide_eq_true (by first | (with_reducible assumption) | assumption)
                  have q170 : x25_2 < (l0_0.length : Int) := of_decide_eq_true (by first | (with_reducible assumption) | assumption)
                  obtain ⟨ad170, e170, hx170_0, hx170_1, hx170_2, hx170_3⟩ := at_T43 HR0_0.out x25_2 p170 q170
                  cases e170
                  replace hx170_0 := (HB.out.cell (World.block_lt_of_cell? w _ hx170_0)).trans hx170_0
                  replace hx170_1 := (HB.out.cell (World.block_lt_of_cell? w _ hx170_1)).trans hx170_1
                  replace hx170_2 := (HB.out.cell (World.block_lt_of_cell? w _ hx170_2)).trans hx170_2
                  replace hx170_3 := (HB.out.cell (World.block_lt_of_cell? w _ hx170_3)).trans hx170_3
                  replace p170 := eq_true p170
                  replace q170 := eq_true q170
                  go_upto_block 2 with (first | ((with_reducible refine gate_dst (N := 5) rfl ?_); (try (refine gate_guard (by rfl) ?_; dsimp only)); refine box_event ?hg (N := 5) ?hd (cs := #[.int .u8 0, .int .i64 0, .int .i64 0, .int .i64 0]) (t := 43) ?hr ?_; (case hd => rfl); (case hg => rfl); (case hr => first | (go_simp; done) | (go_simp; rfl)); intro gb171 hg w14 hbox hb; have n0_ := Aside0.mk (Kd.R_below (by (with_reducible repeat (first | apply Kd.R_alloc | apply Kd.R_drewN | apply Kd.R_drew)); exact HO_3.out) hb); have n1_ := Aside0.mk (blk_below (g := gb168) (o := .cells #[.slice (some ad170) l0_0.length c0_0] 24 (0, 0)) (by (with_reducible repeat (first | refine blk_drewN ?_ _ | refine blk_drew ?_ | refine blk_alloc ?_ _)); exact BK168.out) hb); have n2_ := Aside0.mk (below_step (by repeat (first | (with_reducible first | exact HB.out | apply below_alloc | apply pw_below_drewN | apply below_drew1 | refine below_set ?_ GE168.out) | exact HB.out)) hb); have n3_ := Aside0.mk (hbox); have n4_ := Aside0.mk ((by rw [hg]; exact (below_size (by repeat (first | (with_reducible first | exact HB.out | apply below_alloc | apply pw_below_drewN | apply below_drew1 | refine below_set ?_ GE168.out) | exact HB.out))) : w.heap.size ≤ gb171)); have n5_ := Aside0.mk ((by rw [hg]; exact (below_size (by repeat (first | (with_reducible first | exact HB.out | apply below_alloc | apply pw_below_drewN | apply below_drew1 | refine below_set ?_ GE168.out) | exact HB.out))) : w.heap.size ≤ gb171)); have n6_ := Aside0.mk ((by rw [hg]; exact Nat.ne_of_lt (blk_lt (g := gb168) (o := .cells #[.slice (some ad170) l0_0.length c0_0] 24 (0, 0)) (by (with_reducible repeat (first | refine blk_drewN ?_ _ | refine blk_drew ?_ | refine blk_alloc ?_ _)); exact BK168.out)) : gb168 ≠ gb171)); have n7_ := Aside0.mk ((by rw [hg]; exact Nat.ne_of_gt (blk_lt (g := gb168) (o := .cells #[.slice (some ad170) l0_0.length c0_0] 24 (0, 0)) (by (with_reducible repeat (first | refine blk_drewN ?_ _ | refine blk_drew ?_ | refine blk_alloc ?_ _)); exact BK168.out)) : gb171 ≠ gb168)); clear HO_3; clear BK168; clear HB; have HO_3 := n0_; have BK168 := n1_; have HB := n2_; have BK171 := n3_; have GW171 := n4_; have GE171 := n5_; have NB168_171 := n6_; have NB171_168 := n7_; clear n0_ n1_ n2_ n3_ n4_ n5_ n6_ n7_; clear hb hbox hg; have hnb15 := NB171_168.out; have hnc15 := NB168_171.out; have hcz16_0 : w14.cell? ⟨gb171, 0, none⟩ = some (.int .u8 0) := (blk_cell BK171.out 0).trans rfl; have hcz16_1 : w14.cell? ⟨gb171, 1, none⟩ = some (.int .i64 0) := (blk_cell BK171.out 1).trans rfl; have hcz16_2 : w14.cell? ⟨gb171, 2, none⟩ = some (.int .i64 0) := (blk_cell BK171.out 2).trans rfl; have hcz16_3 : w14.cell? ⟨gb171, 3, none⟩ = some (.int .i64 0) := (blk_cell BK171.out 3).trans rfl; have hfz16_0 := blk_frozen BK171.out 0; have hfz16_1 := blk_frozen BK171.out 1; have hfz16_2 := blk_frozen BK171.out 2; have hfz16_3 := blk_frozen BK171.out 3))
                  repeat (go_quiet (first | ((with_reducible refine gate_dst (N := 5) rfl ?_); (try (refine gate_guard (by rfl) ?_; dsimp only)); refine box_event ?hg (N := 5) ?hd (cs := #[.int .u8 0, .int .i64 0, .int .i64 0, .int .i64 0]) (t := 43) ?hr ?_; (case hd => rfl); (case hg => rfl); (case hr => first | (go_simp; done) | (go_simp; rfl)); intro gb171 hg w14 hbox hb; have n0_ := Aside0.mk (Kd.R_below (by (with_reducible repeat (first | apply Kd.R_alloc | apply Kd.R_drewN | apply Kd.R_drew)); exact HO_3.out) hb); have n1_ := Aside0.mk (blk_below (g := gb168) (o := .cells #[.slice (some ad170) l0_0.length c0_0] 24 (0, 0)) (by (with_reducible repeat (first | refine blk_drewN ?_ _ | refine blk_drew ?_ | refine blk_alloc ?_ _)); exact BK168.out) hb); have n2_ := Aside0.mk (below_step (by repeat (first | (with_reducible first | exact HB.out | apply below_alloc | apply pw_below_drewN | apply below_drew1 | refine below_set ?_ GE168.out) | exact HB.out)) hb); have n3_ := Aside0.mk (hbox); have n4_ := Aside0.mk ((by rw [hg]; exact (below_size (by repeat (first | (with_reducible first | exact HB.out | apply below_alloc | apply pw_below_drewN | apply below_drew1 | refine below_set ?_ GE168.out) | exact HB.out))) : w.heap.size ≤ gb171)); have n5_ := Aside0.mk ((by rw [hg]; exact (below_size (by repeat (first | (with_reducible first | exact HB.out | apply below_alloc | apply pw_below_drewN | apply below_drew1 | refine below_set ?_ GE168.out) | exact HB.out))) : w.heap.size ≤ gb171)); have n6_ := Aside0.mk ((by rw [hg]; exact Nat.ne_of_lt (blk_lt (g := gb168) (o := .cells #[.slice (some ad170) l0_0.length c0_0] 24 (0, 0)) (by (with_reducible repeat (first | refine blk_drewN ?_ _ | refine blk_drew ?_ | refine blk_alloc ?_ _)); exact BK168.out)) : gb168 ≠ gb171)); have n7_ := Aside0.mk ((by rw [hg]; exact Nat.ne_of_gt (blk_lt (g := gb168) (o := .cells #[.slice (some ad170) l0_0.length c0_0] 24 (0, 0)) (by (with_reducible repeat (first | refine blk_drewN ?_ _ | refine blk_drew ?_ | refine blk_alloc ?_ _)); exact BK168.out)) : gb171 ≠ gb168)); clear HO_3; clear BK168; clear HB; have HO_3 := n0_; have BK168 := n1_; have HB := n2_; have BK171 := n3_; have GW171 := n4_; have GE171 := n5_; have NB168_171 := n6_; have NB171_168 := n7_; clear n0_ n1_ n2_ n3_ n4_ n5_ n6_ n7_; clear hb hbox hg; have hnb15 := NB171_168.out; have hnc15 := NB168_171.out; have hcz16_0 : w14.cell? ⟨gb171, 0, none⟩ = some (.int .u8 0) := (blk_cell BK171.out 0).trans rfl; have hcz16_1 : w14.cell? ⟨gb171, 1, none⟩ = some (.int .i64 0) := (blk_cell BK171.out 1).trans rfl; have hcz16_2 : w14.cell? ⟨gb171, 2, none⟩ = some (.int .i64 0) := (blk_cell BK171.out 2).trans rfl; have hcz16_3 : w14.cell? ⟨gb171, 3, none⟩ = some (.int .i64 0) := (blk_cell BK171.out 3).trans rfl; have hfz16_0 := blk_frozen BK171.out 0; have hfz16_1 := blk_frozen BK171.out 1; have hfz16_2 := blk_frozen BK171.out 2; have hfz16_3 := blk_frozen BK171.out 3)); go_upto_block 2 with (first | ((with_reducible refine gate_dst (N := 5) rfl ?_); (try (refine gate_guard (by rfl) ?_; dsimp only)); refine box_event ?hg (N := 5) ?hd (cs := #[.int .u8 0, .int .i64 0, .int .i64 0, .int .i64 0]) (t := 43) ?hr ?_; (case hd => rfl); (case hg => rfl); (case hr => first | (go_simp; done) | (go_simp; rfl)); intro gb171 hg w14 hbox hb; have n0_ := Aside0.mk (Kd.R_below (by (with_reducible repeat (first | apply Kd.R_alloc | apply Kd.R_drewN | apply Kd.R_drew)); exact HO_3.out) hb); have n1_ := Aside0.mk (blk_below (g := gb168) (o := .cells #[.slice (some ad170) l0_0.length c0_0] 24 (0, 0)) (by (with_reducible repeat (first | refine blk_drewN ?_ _ | refine blk_drew ?_ | refine blk_alloc ?_ _)); exact BK168.out) hb); have n2_ := Aside0.mk (below_step (by repeat (first | (with_reducible first | exact HB.out | apply below_alloc | apply pw_below_drewN | apply below_drew1 | refine below_set ?_ GE168.out) | exact HB.out)) hb); have n3_ := Aside0.mk (hbox); have n4_ := Aside0.mk ((by rw [hg]; exact (below_size (by repeat (first | (with_reducible first | exact HB.out | apply below_alloc | apply pw_below_drewN | apply below_drew1 | refine below_set ?_ GE168.out) | exact HB.out))) : w.heap.size ≤ gb171)); have n5_ := Aside0.mk ((by rw [hg]; exact (below_size (by repeat (first | (with_reducible first | exact HB.out | apply below_alloc | apply pw_below_drewN | apply below_drew1 | refine below_set ?_ GE168.out) | exact HB.out))) : w.heap.size ≤ gb171)); have n6_ := Aside0.mk ((by rw [hg]; exact Nat.ne_of_lt (blk_lt (g := gb168) (o := .cells #[.slice (some ad170) l0_0.length c0_0] 24 (0, 0)) (by (with_reducible repeat (first | refine blk_drewN ?_ _ | refine blk_drew ?_ | refine blk_alloc ?_ _)); exact BK168.out)) : gb168 ≠ gb171)); have n7_ := Aside0.mk ((by rw [hg]; exact Nat.ne_of_gt (blk_lt (g := gb168) (o := .cells #[.slice (some ad170) l0_0.length c0_0] 24 (0, 0)) (by (with_reducible repeat (first | refine blk_drewN ?_ _ | refine blk_drew ?_ | refine blk_alloc ?_ _)); exact BK168.out)) : gb171 ≠ gb168)); clear HO_3; clear BK168; clear HB; have HO_3 := n0_; have BK168 := n1_; have HB := n2_; have BK171 := n3_; have GW171 := n4_; have GE171 := n5_; have NB168_171 := n6_; have NB171_168 := n7_; clear n0_ n1_ n2_ n3_ n4_ n5_ n6_ n7_; clear hb hbox hg; have hnb15 := NB171_168.out; have hnc15 := NB168_171.out; have hcz16_0 : w14.cell? ⟨gb171, 0, none⟩ = some (.int .u8 0) := (blk_cell BK171.out 0).trans rfl; have hcz16_1 : w14.cell? ⟨gb171, 1, none⟩ = some (.int .i64 0) := (blk_cell BK171.out 1).trans rfl; have hcz16_2 : w14.cell? ⟨gb171, 2, none⟩ = some (.int .i64 0) := (blk_cell BK171.out 2).trans rfl; have hcz16_3 : w14.cell? ⟨gb171, 3, none⟩ = some (.int .i64 0) := (blk_cell BK171.out 3).trans rfl; have hfz16_0 := blk_frozen BK171.out 0; have hfz16_1 := blk_frozen BK171.out 1; have hfz16_2 := blk_frozen BK171.out 2; have hfz16_3 := blk_frozen BK171.out 3)))
                  (try simp only [Act.put, List.setIfInBounds_toArray, List.set_cons_zero, List.set_cons_succ])
                  go_cut [3] (fun v3 wc => ∃ (kq : Nat) (x3_12 : List Int), Aside0 (tree_shaped.j3 kq x3_12 x25_2 l0_0 (l0_0.length : Int) x25_2 l0_0 ((rd_T43 l0_0 x25_2).f0) ((rd_T43 l0_0 x25_2).f1) ((rd_T43 l0_0 x25_2).f2) ((rd_T43 l0_0 x25_2).f3) = some r) ∧ Aside0 (kq ≤ k2) ∧ Aside0 (Kd.R (Kd.int .i64) 3 wc w.heap.size (fun _ => True) v3 x3_12) ∧ Aside0 (wc.heap[gb168]? = some (.cells #[(.slice (some ad170) l0_0.length c0_0)] 24 (0, 0))) ∧ Aside0 (wc.heap[gb171]? = some (.cells #[.int .u8 ((rd_T43 l0_0 x25_2).f0), .int .i64 ((rd_T43 l0_0 x25_2).f1), .int .i64 ((rd_T43 l0_0 x25_2).f2), .int .i64 ((rd_T43 l0_0 x25_2).f3)] 43 (0, 0))) ∧ Aside0 (Below w.heap.size w wc))
                  case first =>
                    have H := HC13.out
                    clear HC13
                    have H' := Aside0.mk H
                    clear H
                    go_wp2
                    repeat (go_quiet (fail); try go_wp2)
                    go_loopg [3] k2 (fun kq v3 w' => ∃ (x3_3 : List Int), Aside0 (tree_shaped.l1 kq x3_3 x25_2 l0_0 (l0_0.length : Int) x25_2 l0_0 ((rd_T43 l0_0 x25_2).f0) ((rd_T43 l0_0 x25_2).f1) ((rd_T43 l0_0 x25_2).f2) ((rd_T43 l0_0 x25_2).f3) = some r) ∧ Aside0 (kq ≤ k2) ∧ Aside0 (Kd.R (Kd.int .i64) 3 w' w.heap.size (fun _ => True) v3 x3_3) ∧ Aside0 (w'.heap[gb168]? = some (.cells #[(.slice (some ad170) l0_0.length c0_0)] 24 (0, 0))) ∧ Aside0 (w'.heap[gb171]? = some (.cells #[.int .u8 ((rd_T43 l0_0 x25_2).f0), .int .i64 ((rd_T43 l0_0 x25_2).f1), .int .i64 ((rd_T43 l0_0 x25_2).f2), .int .i64 ((rd_T43 l0_0 x25_2).f3)] 43 (0, 0))) ∧ Aside0 (Below w.heap.size w w'))
                    case atStart => exact ⟨(x3_2), H', ⟨Nat.le_refl _⟩, ⟨by (with_reducible repeat (first | apply Kd.R_alloc | apply Kd.R_drewN | apply Kd.R_drew)); exact Kd.R_mono (Kd.R_far (p := ⟨gb171, 3, none⟩) (Kd.R_far (p := ⟨gb171, 2, none⟩) (Kd.R_far (p := ⟨gb171, 1, none⟩) (Kd.R_far (p := ⟨gb171, 0, none⟩) (Kd.R_types HO_3.out BK171.out (by decide)) (fun _ hk => hk.2) (.int .u8 ((rd_T43 l0_0 x25_2).f0))) (fun _ hk => hk.2) (.int .i64 ((rd_T43 l0_0 x25_2).f1))) (fun _ hk => hk.2) (.int .i64 ((rd_T43 l0_0 x25_2).f2))) (fun _ hk => hk.2) (.int .i64 ((rd_T43 l0_0 x25_2).f3))) (fun _ hk => trivial)⟩, ⟨by (with_reducible repeat (first | refine blk_drewN ?_ _ | refine blk_drew ?_ | refine blk_alloc ?_ _)); refine blk_far ?_ NB168_171.out _; (with_reducible repeat (first | refine blk_drewN ?_ _ | refine blk_drew ?_ | refine blk_alloc ?_ _)); refine blk_far ?_ NB168_171.out _; (with_reducible repeat (first | refine blk_drewN ?_ _ | refine blk_drew ?_ | refine blk_alloc ?_ _)); refine blk_far ?_ NB168_171.out _; (with_reducible repeat (first | refine blk_drewN ?_ _ | refine blk_drew ?_ | refine blk_alloc ?_ _)); refine blk_far ?_ NB168_171.out _; (with_reducible repeat (first | refine blk_drewN ?_ _ | refine blk_drew ?_ | refine blk_alloc ?_ _)); exact BK168.out⟩, ⟨by (with_reducible repeat (first | refine blk_drewN ?_ _ | refine blk_drew ?_ | refine blk_alloc ?_ _)); refine blk_put (cs := #[.int .u8 ((rd_T43 l0_0 x25_2).f0), .int .i64 ((rd_T43 l0_0 x25_2).f1), .int .i64 ((rd_T43 l0_0 x25_2).f2), .int .i64 0]) ?_ 3 _ rfl; (with_reducible repeat (first | refine blk_drewN ?_ _ | refine blk_drew ?_ | refine blk_alloc ?_ _)); refine blk_put (cs := #[.int .u8 ((rd_T43 l0_0 x25_2).f0), .int .i64 ((rd_T43 l0_0 x25_2).f1), .int .i64 0, .int .i64 0]) ?_ 2 _ rfl; (with_reducible repeat (first | refine blk_drewN ?_ _ | refine blk_drew ?_ | refine blk_alloc ?_ _)); refine blk_put (cs := #[.int .u8 ((rd_T43 l0_0 x25_2).f0), .int .i64 0, .int .i64 0, .int .i64 0]) ?_ 1 _ rfl; (with_reducible repeat (first | refine blk_drewN ?_ _ | refine blk_drew ?_ | refine blk_alloc ?_ _)); refine blk_put (cs := #[.int .u8 0, .int .i64 0, .int .i64 0, .int .i64 0]) ?_ 0 _ rfl; (with_reducible repeat (first | refine blk_drewN ?_ _ | refine blk_drew ?_ | refine blk_alloc ?_ _)); exact BK171.out⟩, ⟨by repeat (first | (with_reducible first | exact HB.out | apply below_alloc | apply pw_below_drewN | apply below_drew1 | refine below_set ?_ GE168.out | refine below_set ?_ GE171.out) | exact HB.out)⟩⟩
                    case round =>
                      clear H'
                      try clear c1
                      try clear p1
                      try clear q1
                      try clear hx1
                      try clear qi1
                      try clear p2
                      try clear c3
                      try clear c4
                      try clear c4b0
                      try clear c4b1
                      try clear c4b2
                      try clear c6
                      try clear c6b0
                      try clear c6b1
                      try clear c8
                      try clear c10
                      try clear c10b0
                      try clear c11
                      try clear c11b0
                      try clear c12
                      try clear c12b0
                      try clear c15
                      try clear p16
                      try clear q16
                      try clear hx16
                      try clear qi16
                      try clear hcz16_0
                      try clear hcz16_1
                      try clear hcz16_2
                      try clear hcz16_3
                      try clear hcz5_0
                      try clear hcz7_0
                      try clear hcz9_0
                      try clear hfz16_0
                      try clear hfz16_1
                      try clear hfz16_2
                      try clear hfz16_3
                      try clear hfz5_0
                      try clear hfz7_0
                      try clear hfz9_0
                      try clear hx169_0
                      try clear hx169_1
                      try clear hx169_2
                      try clear hx169_3
                      try clear hx170_0
                      try clear hx170_1
                      try clear hx170_2
                      try clear hx170_3
                      try clear p1
                      try clear p169
                      try clear p170
                      try clear p2
                      try clear q1
                      try clear q169
                      try clear q170
                      obtain ⟨x3_3, HA, HK3, HO_3, BK168, BK171, HB⟩ := hrel
                      cases gk with
                      | zero => exact absurd HA.out (by simp [tree_shaped.l1])
                      | succ k3 =>
                        have H := HA.out
                        clear HA
                        simp only [tree_shaped.l1] at H
                        by_cases c17 : (x3_3.length : Int) > 0
                        · rw [if_pos c17] at H
                          have c17b0 : decide (0 < (x3_3.length : Int)) = true := decide_eq_true c17
                          have c17b1 : decide (0 < x3_3.length) = true := decide_eq_true (by omega)
                          clear c17
                          (first | rw [c17b0] | (simp only [i64_w, i32_w]; rw [c17b0]) | skip)
                          obtain ⟨ji18, hji18⟩ : ∃ j_ : Int, (wrap64 ((x3_3.length : Int) - 1)) = j_ := ⟨_, rfl⟩
                          replace H : (if 0 ≤ (ji18) then (if (ji18) < (x3_3.length : Int) then (if (rd x3_3 (ji18)) = x25_2 then (if (ji18) ≤ (x3_3.length : Int) then (tree_shaped.l1 k3 (x3_3.take ((ji18) : Int).toNat) x25_2 l0_0 (l0_0.length : Int) x25_2 l0_0 ((rd_T43 l0_0 x25_2).f0) ((rd_T43 l0_0 x25_2).f1) ((rd_T43 l0_0 x25_2).f2) ((rd_T43 l0_0 x25_2).f3)) else (none)) else (tree_shaped.j3 k3 x3_3 x25_2 l0_0 (l0_0.length : Int) x25_2 l0_0 ((rd_T43 l0_0 x25_2).f0) ((rd_T43 l0_0 x25_2).f1) ((rd_T43 l0_0 x25_2).f2) ((rd_T43 l0_0 x25_2).f3))) else (none)) else (none)) = some r := by first | (rw [hji18] at H; exact H) | (simp only [hji18] at H ⊢; exact H)
                          have hji18w : (IntKind.i64.wrap ((x3_3.length : Int) - 1)) = ji18 := (i64_w _).trans hji18
                          by_cases c19 : 0 ≤ (ji18)
                          · rw [if_pos c19] at H
                            have c19b0 : decide (0 ≤ (ji18)) = true := decide_eq_true c19
                            clear c19
                            by_cases c20 : (ji18) < (x3_3.length : Int)
                            · rw [if_pos c20] at H
                              have c20b0 : decide ((ji18) < (x3_3.length : Int)) = true := decide_eq_true c20
                              clear c20
                              by_cases c21 : (rd x3_3 (ji18)) = x25_2
                              · rw [if_pos c21] at H
                                have c21b0 : ((rd x3_3 (ji18)) == x25_2) = true := beq_iff_eq.mpr c21
                                have c21b1 : ((rd x3_3 (ji18)) != x25_2) = false := bne_eq_false_iff_eq.mpr c21
                                clear c21
                                by_cases c22 : (ji18) ≤ (x3_3.length : Int)
                                · rw [if_pos c22] at H
                                  have c22b0 := eq_true c22
                                  have c22b1 : decide ((ji18) ≤ (x3_3.length : Int)) = true := decide_eq_true c22
                                  clear c22
                                  obtain ⟨y173, hy173⟩ : ∃ y_ : List Int, y_ = (x3_3.take ((ji18) : Int).toNat) := ⟨_, rfl⟩
                                  replace H : (tree_shaped.l1 k3 y173 x25_2 l0_0 (l0_0.length : Int) x25_2 l0_0 ((rd_T43 l0_0 x25_2).f0) ((rd_T43 l0_0 x25_2).f1) ((rd_T43 l0_0 x25_2).f2) ((rd_T43 l0_0 x25_2).f3)) = some r := by first | (rw [hy173]; with_reducible exact H) | (have H2_ := (Option.bind_some _ _).symm.trans H; rw [hy173]; with_reducible exact H2_) | (have H2_ := (Option.bind_some _ _).symm.trans H; with_reducible exact H2_) | with_reducible exact H | (rw [hy173]; exact H) | exact H
                                  have Ny173 := Aside0.mk hy173
                                  clear hy173
                                  have H' := Aside0.mk H
                                  clear H
                                  obtain ⟨Ao23, co23, eo23⟩ := Kd.R_slice HO_3.out
                                  subst eo23
                                  have p172 : 0 ≤ ((ji18) : Int) := of_decide_eq_true (by first | (with_reducible assumption) | assumption)
                                  have q172 : (ji18) < (x3_3.length : Int) := of_decide_eq_true (by first | (with_reducible assumption) | assumption)
                                  obtain ⟨ad172, e172, hx172_0⟩ := Kd.at_int (Kd.R_reads' HO_3.out).2.2 (ji18) p172 q172
                                  cases e172
                                  replace p172 := eq_true p172
                                  replace q172 := eq_true q172
                                  have q24 : ((ji18) : Int) ≤ ((x3_3.length : Int) : Int) := of_decide_eq_true (by first | (with_reducible assumption) | assumption)
                                  obtain ⟨i024, hi024, _, hsz24, _⟩ := info_parts info3
                                  have hcut24 := cut_to (P := Tryd.prog) 55 3 .i64 Tryd.underlying55 hi024 (some ad172) x3_3.length co23 (ji18) (of_decide_eq_true (by first | (with_reducible assumption) | assumption)) q24 (Kd.R_reads' HO_3.out).2.1
                                  have hr24 := Kd.R_take (m := ((ji18) : Int).toNat) HO_3.out (by omega)
                                  have hy24 : y173.length = ((ji18) : Int).toNat := (by rw [Ny173.out, List.length_take]; omega)
                                  rw [← Ny173.out] at hr24
                                  rw [← hy24] at hr24 hcut24
                                  clear hy24 hi024 hsz24 HO_3
                                  have HO175 := Aside0.mk hr24
                                  clear hr24
                                  replace q24 := eq_true q24
                                  go_wp2
                                  repeat (go_quiet (fail); try go_wp2)
                                  go_roundg k3
                                  case measure => have := HJ1.out; have := HK2.out; have := HK3.out; omega
                                  case rel => exact ⟨(y173), H', ⟨by have := HJ1.out; have := HK2.out; have := HK3.out; omega⟩, ⟨by (with_reducible repeat (first | apply Kd.R_alloc | apply Kd.R_drewN | apply Kd.R_drew)); exact HO175.out⟩, ⟨by (with_reducible repeat (first | refine blk_drewN ?_ _ | refine blk_drew ?_ | refine blk_alloc ?_ _)); exact BK168.out⟩, ⟨by (with_reducible repeat (first | refine blk_drewN ?_ _ | refine blk_drew ?_ | refine blk_alloc ?_ _)); exact BK171.out⟩, ⟨by repeat (first | (with_reducible first | exact HB.out | apply below_alloc | apply pw_below_drewN | apply below_drew1 | refine below_set ?_ GE168.out | refine below_set ?_ GE171.out) | exact HB.out)⟩⟩
                                · rw [if_neg c22] at H
                                  exact absurd H (by simp)
                              · rw [if_neg c21] at H
                                have c21b0 : ((rd x3_3 (ji18)) == x25_2) = false := beq_eq_false_iff_ne.mpr c21
                                have c21b1 : ((rd x3_3 (ji18)) != x25_2) = true := bne_iff_ne.mpr c21
                                have H' := Aside0.mk H
                                clear H
                                obtain ⟨Ao25, co25, eo25⟩ := Kd.R_slice HO_3.out
                                subst eo25
                                have p172 : 0 ≤ ((ji18) : Int) := of_decide_eq_true (by first | (with_reducible assumption) | assumption)
                                have q172 : (ji18) < (x3_3.length : Int) := of_decide_eq_true (by first | (with_reducible assumption) | assumption)
                                obtain ⟨ad172, e172, hx172_0⟩ := Kd.at_int (Kd.R_reads' HO_3.out).2.2 (ji18) p172 q172
                                cases e172
                                replace p172 := eq_true p172
                                replace q172 := eq_true q172
                                go_wp2
                                repeat (go_quiet (fail); try go_wp2)
                                go_meet
                                case rel => exact ⟨_, (x3_3), H', ⟨by have := HJ1.out; have := HK2.out; have := HK3.out; first | omega | exact Nat.le_refl _⟩, ⟨by (with_reducible repeat (first | apply Kd.R_alloc | apply Kd.R_drewN | apply Kd.R_drew)); exact HO_3.out⟩, ⟨by (with_reducible repeat (first | refine blk_drewN ?_ _ | refine blk_drew ?_ | refine blk_alloc ?_ _)); exact BK168.out⟩, ⟨by (with_reducible repeat (first | refine blk_drewN ?_ _ | refine blk_drew ?_ | refine blk_alloc ?_ _)); exact BK171.out⟩, ⟨by repeat (first | (with_reducible first | exact HB.out | apply below_alloc | apply pw_below_drewN | apply below_drew1 | refine below_set ?_ GE168.out | refine below_set ?_ GE171.out) | exact HB.out)⟩⟩
                            · rw [if_neg c20] at H
                              exact absurd H (by simp)
                          · rw [if_neg c19] at H
                            exact absurd H (by simp)
                        · rw [if_neg c17] at H
                          have c17b0 : decide (0 < (x3_3.length : Int)) = false := decide_eq_false c17
                          have c17b1 : decide (0 < x3_3.length) = false := decide_eq_false (by omega)
                          clear c17
                          (first | rw [c17b0] | (simp only [i64_w, i32_w]; rw [c17b0]) | skip)
                          have H' := Aside0.mk H
                          clear H
                          obtain ⟨Ao26, co26, eo26⟩ := Kd.R_slice HO_3.out
                          subst eo26
                          go_wp2
                          repeat (go_quiet (fail); try go_wp2)
                          go_meet
                          case rel => exact ⟨_, (x3_3), H', ⟨by have := HJ1.out; have := HK2.out; have := HK3.out; first | omega | exact Nat.le_refl _⟩, ⟨by (with_reducible repeat (first | apply Kd.R_alloc | apply Kd.R_drewN | apply Kd.R_drew)); exact HO_3.out⟩, ⟨by (with_reducible repeat (first | refine blk_drewN ?_ _ | refine blk_drew ?_ | refine blk_alloc ?_ _)); exact BK168.out⟩, ⟨by (with_reducible repeat (first | refine blk_drewN ?_ _ | refine blk_drew ?_ | refine blk_alloc ?_ _)); exact BK171.out⟩, ⟨by repeat (first | (with_reducible first | exact HB.out | apply below_alloc | apply pw_below_drewN | apply below_drew1 | refine below_set ?_ GE168.out | refine below_set ?_ GE171.out) | exact HB.out)⟩⟩
                  case rest =>
                    clear HC13
                    try clear c1
                    try clear p1
                    try clear q1
                    try clear hx1
                    try clear qi1
                    try clear c2
                    try clear p2
                    try clear q2
                    try clear c3
                    try clear c4
                    try clear c4b0
                    try clear c4b1
                    try clear c4b2
                    try clear c6
                    try clear c6b0
                    try clear c6b1
                    try clear p6
                    try clear c8
                    try clear c10
                    try clear c10b0
                    try clear c11
                    try clear c11b0
                    try clear c12
                    try clear c12b0
                    try clear c15
                    try clear p16
                    try clear q16
                    try clear hx16
                    try clear qi16
                    try clear c17
                    try clear c17b0
                    try clear c17b1
                    try clear p17
                    try clear q17
                    try clear hx17
                    try clear c19
                    try clear c19b0
                    try clear c20
                    try clear c20b0
                    try clear c21
                    try clear c21b0
                    try clear c21b1
                    try clear c22
                    try clear c22b0
                    try clear c22b1
                    try clear q24
                    try clear hcz16_0
                    try clear hcz16_1
                    try clear hcz16_2
                    try clear hcz16_3
                    try clear hcz5_0
                    try clear hcz7_0
                    try clear hcz9_0
                    try clear hfz16_0
                    try clear hfz16_1
                    try clear hfz16_2
                    try clear hfz16_3
                    try clear hfz5_0
                    try clear hfz7_0
                    try clear hfz9_0
                    try clear hx169_0
                    try clear hx169_1
                    try clear hx169_2
                    try clear hx169_3
                    try clear hx170_0
                    try clear hx170_1
                    try clear hx170_2
                    try clear hx170_3
                    try clear hx172_0
                    try clear p1
                    try clear p16
                    try clear p169
                    try clear p170
                    try clear p172
                    try clear p2
                    try clear q1
                    try clear q16
                    try clear q169
                    try clear q170
                    try clear q172
                    try clear q24
                    obtain ⟨kq, x3_12, HA, HJ12, HO_3, BK168, BK171, HB⟩ := hcut
                    cases kq with
                    | zero => exact absurd HA.out (by simp [tree_shaped.j3])
                    | succ kj12 =>
                      have H := HA.out
                      clear HA
                      simp only [tree_shaped.j3] at H
                      by_cases c27 : (x3_12.length : Int) > 0
                      · rw [if_pos c27] at H
                        have c27b0 : decide (0 < (x3_12.length : Int)) = true := decide_eq_true c27
                        have c27b1 : decide (0 < x3_12.length) = true := decide_eq_true (by omega)
                        clear c27
                        obtain ⟨ji28, hji28⟩ : ∃ j_ : Int, (wrap64 ((x3_12.length : Int) - 1)) = j_ := ⟨_, rfl⟩
                        replace H : (if 0 ≤ (ji28) then (if (ji28) < (x3_12.length : Int) then (if ((rd_T43 l0_0 x25_2).f0) ≥ 58 then (some false) else (if ((rd_T43 l0_0 x25_2).f3) < 1 then (some false) else (if ((rd_T43 l0_0 x25_2).f3) > (wrap64 ((rd x3_12 (ji28)) - x25_2)) then (some false) else (if x3_12.length < 17592186044416 then (tree_shaped.l0 kj12 (x3_12 ++ [wrap64 (x25_2 + ((rd_T43 l0_0 x25_2).f3))]) l0_0 (l0_0.length : Int) (wrap64 (x25_2 + 1)) l0_0) else (none))))) else (none)) else (none)) = some r := by first | (rw [hji28] at H; exact H) | (simp only [hji28] at H ⊢; exact H)
                        have hji28w : (IntKind.i64.wrap ((x3_12.length : Int) - 1)) = ji28 := (i64_w _).trans hji28
                        by_cases c29 : 0 ≤ (ji28)
                        · rw [if_pos c29] at H
                          have c29b0 : decide (0 ≤ (ji28)) = true := decide_eq_true c29
                          clear c29
                          by_cases c30 : (ji28) < (x3_12.length : Int)
                          · rw [if_pos c30] at H
                            have c30b0 : decide ((ji28) < (x3_12.length : Int)) = true := decide_eq_true c30
                            clear c30
                            by_cases c31 : ((rd_T43 l0_0 x25_2).f0) ≥ 58
                            · rw [if_pos c31] at H
                              have c31b0 : decide (58 ≤ ((rd_T43 l0_0 x25_2).f0)) = true := decide_eq_true c31
                              clear c31
                              obtain rfl := Option.some.inj H
                              have hnb32 := NB168_171.out
                              have hnc32 := NB171_168.out
                              have hcz33_0 : wc.cell? ⟨gb168, 0, none⟩ = some (.slice (some ad170) l0_0.length c0_0) := (blk_cell BK168.out 0).trans rfl
                              have hfz33_0 := blk_frozen BK168.out 0
                              obtain ⟨Ao34, co34, eo34⟩ := Kd.R_slice HO_3.out
                              subst eo34
                              have p176 : 0 ≤ ((ji28) : Int) := of_decide_eq_true (by first | (with_reducible assumption) | assumption)
                              have q176 : (ji28) < (x3_12.length : Int) := of_decide_eq_true (by first | (with_reducible assumption) | assumption)
                              obtain ⟨ad176, e176, hx176_0⟩ := Kd.at_int (Kd.R_reads' HO_3.out).2.2 (ji28) p176 q176
                              cases e176
                              replace p176 := eq_true p176
                              replace q176 := eq_true q176
                              have hcz35_0 : wc.cell? ⟨gb171, 0, none⟩ = some (.int .u8 ((rd_T43 l0_0 x25_2).f0)) := (blk_cell BK171.out 0).trans rfl
                              have hcz35_1 : wc.cell? ⟨gb171, 1, none⟩ = some (.int .i64 ((rd_T43 l0_0 x25_2).f1)) := (blk_cell BK171.out 1).trans rfl
                              have hcz35_2 : wc.cell? ⟨gb171, 2, none⟩ = some (.int .i64 ((rd_T43 l0_0 x25_2).f2)) := (blk_cell BK171.out 2).trans rfl
                              have hcz35_3 : wc.cell? ⟨gb171, 3, none⟩ = some (.int .i64 ((rd_T43 l0_0 x25_2).f3)) := (blk_cell BK171.out 3).trans rfl
                              have hfz35_0 := blk_frozen BK171.out 0
                              have hfz35_1 := blk_frozen BK171.out 1
                              have hfz35_2 := blk_frozen BK171.out 2
                              have hfz35_3 := blk_frozen BK171.out 3
                              go_wp2
                              repeat (go_quiet (fail); try go_wp2)
                              go_ret
                              exact ⟨by first | rfl | (simp [errW_none, errW_some] <;> rfl) | (simp only [← hji28]; first | rfl | (simp [errW_none, errW_some] <;> rfl)) | (simp [*, errW_none, errW_some] <;> rfl), by repeat (first | (with_reducible first | exact HB.out | apply below_alloc | apply pw_below_drewN | apply below_drew1 | refine below_set ?_ GE168.out | refine below_set ?_ GE171.out) | exact HB.out)⟩
                            · rw [if_neg c31] at H
                              have c31b0 : decide (58 ≤ ((rd_T43 l0_0 x25_2).f0)) = false := decide_eq_false c31
                              clear c31
                              by_cases c36 : ((rd_T43 l0_0 x25_2).f3) < 1
                              · rw [if_pos c36] at H
                                have c36b0 : decide (((rd_T43 l0_0 x25_2).f3) < 1) = true := decide_eq_true c36
                                clear c36
                                obtain rfl := Option.some.inj H
                                have hnb37 := NB168_171.out
                                have hnc37 := NB171_168.out
                                have hcz38_0 : wc.cell? ⟨gb168, 0, none⟩ = some (.slice (some ad170) l0_0.length c0_0) := (blk_cell BK168.out 0).trans rfl
                                have hfz38_0 := blk_frozen BK168.out 0
                                obtain ⟨Ao39, co39, eo39⟩ := Kd.R_slice HO_3.out
                                subst eo39
                                have p176 : 0 ≤ ((ji28) : Int) := of_decide_eq_true (by first | (with_reducible assumption) | assumption)
                                have q176 : (ji28) < (x3_12.length : Int) := of_decide_eq_true (by first | (with_reducible assumption) | assumption)
                                obtain ⟨ad176, e176, hx176_0⟩ := Kd.at_int (Kd.R_reads' HO_3.out).2.2 (ji28) p176 q176
                                cases e176
                                replace p176 := eq_true p176
                                replace q176 := eq_true q176
                                have hcz40_0 : wc.cell? ⟨gb171, 0, none⟩ = some (.int .u8 ((rd_T43 l0_0 x25_2).f0)) := (blk_cell BK171.out 0).trans rfl
                                have hcz40_1 : wc.cell? ⟨gb171, 1, none⟩ = some (.int .i64 ((rd_T43 l0_0 x25_2).f1)) := (blk_cell BK171.out 1).trans rfl
                                have hcz40_2 : wc.cell? ⟨gb171, 2, none⟩ = some (.int .i64 ((rd_T43 l0_0 x25_2).f2)) := (blk_cell BK171.out 2).trans rfl
                                have hcz40_3 : wc.cell? ⟨gb171, 3, none⟩ = some (.int .i64 ((rd_T43 l0_0 x25_2).f3)) := (blk_cell BK171.out 3).trans rfl
                                have hfz40_0 := blk_frozen BK171.out 0
                                have hfz40_1 := blk_frozen BK171.out 1
                                have hfz40_2 := blk_frozen BK171.out 2
                                have hfz40_3 := blk_frozen BK171.out 3
                                go_wp2
                                repeat (go_quiet (fail); try go_wp2)
                                go_ret
                                exact ⟨by first | rfl | (simp [errW_none, errW_some] <;> rfl) | (simp only [← hji28]; first | rfl | (simp [errW_none, errW_some] <;> rfl)) | (simp [*, errW_none, errW_some] <;> rfl), by repeat (first | (with_reducible first | exact HB.out | apply below_alloc | apply pw_below_drewN | apply below_drew1 | refine below_set ?_ GE168.out | refine below_set ?_ GE171.out) | exact HB.out)⟩
                              · rw [if_neg c36] at H
                                have c36b0 : decide (((rd_T43 l0_0 x25_2).f3) < 1) = false := decide_eq_false c36
                                clear c36
                                by_cases c41 : ((rd_T43 l0_0 x25_2).f3) > (wrap64 ((rd x3_12 (ji28)) - x25_2))
                                · rw [if_pos c41] at H
                                  have c41b0 : decide ((wrap64 ((rd x3_12 (ji28)) - x25_2)) < ((rd_T43 l0_0 x25_2).f3)) = true := decide_eq_true c41
                                  clear c41
                                  obtain rfl := Option.some.inj H
                                  have hnb42 := NB168_171.out
                                  have hnc42 := NB171_168.out
                                  have hcz43_0 : wc.cell? ⟨gb168, 0, none⟩ = some (.slice (some ad170) l0_0.length c0_0) := (blk_cell BK168.out 0).trans rfl
                                  have hfz43_0 := blk_frozen BK168.out 0
                                  obtain ⟨Ao44, co44, eo44⟩ := Kd.R_slice HO_3.out
                                  subst eo44
                                  have p176 : 0 ≤ ((ji28) : Int) := of_decide_eq_true (by first | (with_reducible assumption) | assumption)
                                  have q176 : (ji28) < (x3_12.length : Int) := of_decide_eq_true (by first | (with_reducible assumption) | assumption)
                                  obtain ⟨ad176, e176, hx176_0⟩ := Kd.at_int (Kd.R_reads' HO_3.out).2.2 (ji28) p176 q176
                                  cases e176
                                  replace p176 := eq_true p176
                                  replace q176 := eq_true q176
                                  have hcz45_0 : wc.cell? ⟨gb171, 0, none⟩ = some (.int .u8 ((rd_T43 l0_0 x25_2).f0)) := (blk_cell BK171.out 0).trans rfl
                                  have hcz45_1 : wc.cell? ⟨gb171, 1, none⟩ = some (.int .i64 ((rd_T43 l0_0 x25_2).f1)) := (blk_cell BK171.out 1).trans rfl
                                  have hcz45_2 : wc.cell? ⟨gb171, 2, none⟩ = some (.int .i64 ((rd_T43 l0_0 x25_2).f2)) := (blk_cell BK171.out 2).trans rfl
                                  have hcz45_3 : wc.cell? ⟨gb171, 3, none⟩ = some (.int .i64 ((rd_T43 l0_0 x25_2).f3)) := (blk_cell BK171.out 3).trans rfl
                                  have hfz45_0 := blk_frozen BK171.out 0
                                  have hfz45_1 := blk_frozen BK171.out 1
                                  have hfz45_2 := blk_frozen BK171.out 2
                                  have hfz45_3 := blk_frozen BK171.out 3
                                  go_wp2
                                  repeat (go_quiet (fail); try go_wp2)
                                  go_ret
                                  exact ⟨by first | rfl | (simp [errW_none, errW_some] <;> rfl) | (simp only [← hji28]; first | rfl | (simp [errW_none, errW_some] <;> rfl)) | (simp [*, errW_none, errW_some] <;> rfl), by repeat (first | (with_reducible first | exact HB.out | apply below_alloc | apply pw_below_drewN | apply below_drew1 | refine below_set ?_ GE168.out | refine below_set ?_ GE171.out) | exact HB.out)⟩
                                · rw [if_neg c41] at H
                                  have c41b0 : decide ((wrap64 ((rd x3_12 (ji28)) - x25_2)) < ((rd_T43 l0_0 x25_2).f3)) = false := decide_eq_false c41
                                  clear c41
                                  by_cases c46 : x3_12.length < 17592186044416
                                  · rw [if_pos c46] at H
                                    have LMc46 := Aside0.mk c46
                                    clear c46
                                    obtain ⟨y177, hy177⟩ : ∃ y_ : List Int, y_ = (x3_12 ++ [wrap64 (x25_2 + ((rd_T43 l0_0 x25_2).f3))]) := ⟨_, rfl⟩
                                    replace H : (tree_shaped.l0 kj12 y177 l0_0 (l0_0.length : Int) (wrap64 (x25_2 + 1)) l0_0) = some r := by first | (rw [hy177]; with_reducible exact H) | (have H2_ := (Option.bind_some _ _).symm.trans H; rw [hy177]; with_reducible exact H2_) | (have H2_ := (Option.bind_some _ _).symm.trans H; with_reducible exact H2_) | with_reducible exact H | (rw [hy177]; exact H) | exact H
                                    have Ny177 := Aside0.mk hy177
                                    clear hy177
                                    have H' := Aside0.mk H
                                    clear H
                                    have hnb47 := NB168_171.out
                                    have hnc47 := NB171_168.out
                                    have hcz48_0 : wc.cell? ⟨gb168, 0, none⟩ = some (.slice (some ad170) l0_0.length c0_0) := (blk_cell BK168.out 0).trans rfl
                                    have hfz48_0 := blk_frozen BK168.out 0
                                    obtain ⟨Ao49, co49, eo49⟩ := Kd.R_slice HO_3.out
                                    subst eo49
                                    have p176 : 0 ≤ ((ji28) : Int) := of_decide_eq_true (by first | (with_reducible assumption) | assumption)
                                    have q176 : (ji28) < (x3_12.length : Int) := of_decide_eq_true (by first | (with_reducible assumption) | assumption)
                                    obtain ⟨ad176, e176, hx176_0⟩ := Kd.at_int (Kd.R_reads' HO_3.out).2.2 (ji28) p176 q176
                                    cases e176
                                    replace p176 := eq_true p176
                                    replace q176 := eq_true q176
                                    have hcz50_0 : wc.cell? ⟨gb171, 0, none⟩ = some (.int .u8 ((rd_T43 l0_0 x25_2).f0)) := (blk_cell BK171.out 0).trans rfl
                                    have hcz50_1 : wc.cell? ⟨gb171, 1, none⟩ = some (.int .i64 ((rd_T43 l0_0 x25_2).f1)) := (blk_cell BK171.out 1).trans rfl
                                    have hcz50_2 : wc.cell? ⟨gb171, 2, none⟩ = some (.int .i64 ((rd_T43 l0_0 x25_2).f2)) := (blk_cell BK171.out 2).trans rfl
                                    have hcz50_3 : wc.cell? ⟨gb171, 3, none⟩ = some (.int .i64 ((rd_T43 l0_0 x25_2).f3)) := (blk_cell BK171.out 3).trans rfl
                                    have hfz50_0 := blk_frozen BK171.out 0
                                    have hfz50_1 := blk_frozen BK171.out 1
                                    have hfz50_2 := blk_frozen BK171.out 2
                                    have hfz50_3 := blk_frozen BK171.out 3
                                    go_wp2_with (first | ((with_reducible refine gate_builtin (b := .append) (xs := #[.tmp 76, .tmp 81]) rfl ?_); (try (refine gate_guard (by rfl) ?_; dsimp only)); at_builtin; refine Kd.R_append (Kd.int .i64) (w0 := w) w.heap.size rfl (.tmp 76) (.tmp 81) 55 3 (.int .i64 0) 8 rfl Tryd.underlying55 info3 rfl (by decide) (by omega) (.slice (some ad176) x3_12.length co49) x3_12 (wrap64 (x25_2 + ((rd_T43 l0_0 x25_2).f3))) [.int .i64 (wrap64 (x25_2 + ((rd_T43 l0_0 x25_2).f3)))] (fun _ => True) (fun _ => False) rfl rfl ?aP (fun _ hk => hk.elim) ?aF ?aO ?aB ?aS ?aL ?_; (case aP => exact rfl); (case aB => exact (by repeat (first | (with_reducible first | exact HB.out | apply below_alloc | apply pw_below_drewN | apply below_drew1 | refine below_set ?_ GE168.out | refine below_set ?_ GE171.out) | exact HB.out))); (case aF => exact (fun _ _ => trivial)); (case aO => exact (by (with_reducible repeat (first | apply Kd.R_alloc | apply Kd.R_drewN | apply Kd.R_drew)); exact HO_3.out)); (case aS => exact (below_size (by repeat (first | (with_reducible first | exact HB.out | apply below_alloc | apply pw_below_drewN | apply below_drew1 | refine below_set ?_ GE168.out | refine below_set ?_ GE171.out) | exact HB.out)))); (case aL => have := LMc46.out; omega); intro v178 w51 ho hb hg hat; rw [← Ny177.out] at ho; have n0_ := Aside0.mk (blk_grown (g := gb168) (o := .cells #[.slice (some ad170) l0_0.length c0_0] 24 (0, 0)) (by (with_reducible repeat (first | refine blk_drewN ?_ _ | refine blk_drew ?_ | refine blk_alloc ?_ _)); exact BK168.out) hg (Kd.R_ne HO_3.out BK168.out (by decide))); have n1_ := Aside0.mk (blk_grown (g := gb171) (o := .cells #[.int .u8 ((rd_T43 l0_0 x25_2).f0), .int .i64 ((rd_T43 l0_0 x25_2).f1), .int .i64 ((rd_T43 l0_0 x25_2).f2), .int .i64 ((rd_T43 l0_0 x25_2).f3)] 43 (0, 0)) (by (with_reducible repeat (first | refine blk_drewN ?_ _ | refine blk_drew ?_ | refine blk_alloc ?_ _)); exact BK171.out) hg (Kd.R_ne HO_3.out BK171.out (by decide))); have n2_ := Aside0.mk (hb); have n3_ := Aside0.mk (ho); clear BK168; clear BK171; clear HB; clear HO_3; have BK168 := n0_; have BK171 := n1_; have HB := n2_; have HO179 := n3_; clear n0_ n1_ n2_ n3_; clear ho hb hg hat))
                                    repeat (go_quiet (first | ((with_reducible refine gate_builtin (b := .append) (xs := #[.tmp 76, .tmp 81]) rfl ?_); (try (refine gate_guard (by rfl) ?_; dsimp only)); at_builtin; refine Kd.R_append (Kd.int .i64) (w0 := w) w.heap.size rfl (.tmp 76) (.tmp 81) 55 3 (.int .i64 0) 8 rfl Tryd.underlying55 info3 rfl (by decide) (by omega) (.slice (some ad176) x3_12.length co49) x3_12 (wrap64 (x25_2 + ((rd_T43 l0_0 x25_2).f3))) [.int .i64 (wrap64 (x25_2 + ((rd_T43 l0_0 x25_2).f3)))] (fun _ => True) (fun _ => False) rfl rfl ?aP (fun _ hk => hk.elim) ?aF ?aO ?aB ?aS ?aL ?_; (case aP => exact rfl); (case aB => exact (by repeat (first | (with_reducible first | exact HB.out | apply below_alloc | apply pw_below_drewN | apply below_drew1 | refine below_set ?_ GE168.out | refine below_set ?_ GE171.out) | exact HB.out))); (case aF => exact (fun _ _ => trivial)); (case aO => exact (by (with_reducible repeat (first | apply Kd.R_alloc | apply Kd.R_drewN | apply Kd.R_drew)); exact HO_3.out)); (case aS => exact (below_size (by repeat (first | (with_reducible first | exact HB.out | apply below_alloc | apply pw_below_drewN | apply below_drew1 | refine below_set ?_ GE168.out | refine below_set ?_ GE171.out) | exact HB.out)))); (case aL => have := LMc46.out; omega); intro v178 w51 ho hb hg hat; rw [← Ny177.out] at ho; have n0_ := Aside0.mk (blk_grown (g := gb168) (o := .cells #[.slice (some ad170) l0_0.length c0_0] 24 (0, 0)) (by (with_reducible repeat (first | refine blk_drewN ?_ _ | refine blk_drew ?_ | refine blk_alloc ?_ _)); exact BK168.out) hg (Kd.R_ne HO_3.out BK168.out (by decide))); have n1_ := Aside0.mk (blk_grown (g := gb171) (o := .cells #[.int .u8 ((rd_T43 l0_0 x25_2).f0), .int .i64 ((rd_T43 l0_0 x25_2).f1), .int .i64 ((rd_T43 l0_0 x25_2).f2), .int .i64 ((rd_T43 l0_0 x25_2).f3)] 43 (0, 0)) (by (with_reducible repeat (first | refine blk_drewN ?_ _ | refine blk_drew ?_ | refine blk_alloc ?_ _)); exact BK171.out) hg (Kd.R_ne HO_3.out BK171.out (by decide))); have n2_ := Aside0.mk (hb); have n3_ := Aside0.mk (ho); clear BK168; clear BK171; clear HB; clear HO_3; have BK168 := n0_; have BK171 := n1_; have HB := n2_; have HO179 := n3_; clear n0_ n1_ n2_ n3_; clear ho hb hg hat)); try go_wp2_with (first | ((with_reducible refine gate_builtin (b := .append) (xs := #[.tmp 76, .tmp 81]) rfl ?_); (try (refine gate_guard (by rfl) ?_; dsimp only)); at_builtin; refine Kd.R_append (Kd.int .i64) (w0 := w) w.heap.size rfl (.tmp 76) (.tmp 81) 55 3 (.int .i64 0) 8 rfl Tryd.underlying55 info3 rfl (by decide) (by omega) (.slice (some ad176) x3_12.length co49) x3_12 (wrap64 (x25_2 + ((rd_T43 l0_0 x25_2).f3))) [.int .i64 (wrap64 (x25_2 + ((rd_T43 l0_0 x25_2).f3)))] (fun _ => True) (fun _ => False) rfl rfl ?aP (fun _ hk => hk.elim) ?aF ?aO ?aB ?aS ?aL ?_; (case aP => exact rfl); (case aB => exact (by repeat (first | (with_reducible first | exact HB.out | apply below_alloc | apply pw_below_drewN | apply below_drew1 | refine below_set ?_ GE168.out | refine below_set ?_ GE171.out) | exact HB.out))); (case aF => exact (fun _ _ => trivial)); (case aO => exact (by (with_reducible repeat (first | apply Kd.R_alloc | apply Kd.R_drewN | apply Kd.R_drew)); exact HO_3.out)); (case aS => exact (below_size (by repeat (first | (with_reducible first | exact HB.out | apply below_alloc | apply pw_below_drewN | apply below_drew1 | refine below_set ?_ GE168.out | refine below_set ?_ GE171.out) | exact HB.out)))); (case aL => have := LMc46.out; omega); intro v178 w51 ho hb hg hat; rw [← Ny177.out] at ho; have n0_ := Aside0.mk (blk_grown (g := gb168) (o := .cells #[.slice (some ad170) l0_0.length c0_0] 24 (0, 0)) (by (with_reducible repeat (first | refine blk_drewN ?_ _ | refine blk_drew ?_ | refine blk_alloc ?_ _)); exact BK168.out) hg (Kd.R_ne HO_3.out BK168.out (by decide))); have n1_ := Aside0.mk (blk_grown (g := gb171) (o := .cells #[.int .u8 ((rd_T43 l0_0 x25_2).f0), .int .i64 ((rd_T43 l0_0 x25_2).f1), .int .i64 ((rd_T43 l0_0 x25_2).f2), .int .i64 ((rd_T43 l0_0 x25_2).f3)] 43 (0, 0)) (by (with_reducible repeat (first | refine blk_drewN ?_ _ | refine blk_drew ?_ | refine blk_alloc ?_ _)); exact BK171.out) hg (Kd.R_ne HO_3.out BK171.out (by decide))); have n2_ := Aside0.mk (hb); have n3_ := Aside0.mk (ho); clear BK168; clear BK171; clear HB; clear HO_3; have BK168 := n0_; have BK171 := n1_; have HB := n2_; have HO179 := n3_; clear n0_ n1_ n2_ n3_; clear ho hb hg hat)))
                                    go_roundg kj12
                                    case measure => have := HJ1.out; have := HK2.out; have := HJ12.out; omega
                                    case rel => exact ⟨(y177), (wrap64 (x25_2 + 1)), (by first | rfl | (simp; done) | (simp [*]; done)), H', ⟨by have := HJ1.out; have := HK2.out; have := HJ12.out; omega⟩, ⟨by (with_reducible repeat (first | apply Kd.R_alloc | apply Kd.R_drewN | apply Kd.R_drew)); exact HO179.out⟩, ⟨by (with_reducible repeat (first | refine blk_drewN ?_ _ | refine blk_drew ?_ | refine blk_alloc ?_ _)); exact BK168.out⟩, ⟨by repeat (first | (with_reducible first | exact HB.out | apply below_alloc | apply pw_below_drewN | apply below_drew1 | refine below_set ?_ GE168.out | refine below_set ?_ GE171.out) | exact HB.out)⟩⟩
                                  · rw [if_neg c46] at H
                                    exact absurd H (by simp)
                          · rw [if_neg c30] at H
                            exact absurd H (by simp)
                        · rw [if_neg c29] at H
                          exact absurd H (by simp)
                      · rw [if_neg c27] at H
                        have c27b0 : decide (0 < (x3_12.length : Int)) = false := decide_eq_false c27
                        have c27b1 : decide (0 < x3_12.length) = false := decide_eq_false (by omega)
                        clear c27
                        by_cases c52 : ((rd_T43 l0_0 x25_2).f0) ≥ 58
                        · rw [if_pos c52] at H
                          have c52b0 : decide (58 ≤ ((rd_T43 l0_0 x25_2).f0)) = true := decide_eq_true c52
                          clear c52
                          obtain rfl := Option.some.inj H
                          have hnb53 := NB168_171.out
                          have hnc53 := NB171_168.out
                          have hcz54_0 : wc.cell? ⟨gb168, 0, none⟩ = some (.slice (some ad170) l0_0.length c0_0) := (blk_cell BK168.out 0).trans rfl
                          have hfz54_0 := blk_frozen BK168.out 0
                          obtain ⟨Ao55, co55, eo55⟩ := Kd.R_slice HO_3.out
                          subst eo55
                          have hcz56_0 : wc.cell? ⟨gb171, 0, none⟩ = some (.int .u8 ((rd_T43 l0_0 x25_2).f0)) := (blk_cell BK171.out 0).trans rfl
                          have hcz56_1 : wc.cell? ⟨gb171, 1, none⟩ = some (.int .i64 ((rd_T43 l0_0 x25_2).f1)) := (blk_cell BK171.out 1).trans rfl
                          have hcz56_2 : wc.cell? ⟨gb171, 2, none⟩ = some (.int .i64 ((rd_T43 l0_0 x25_2).f2)) := (blk_cell BK171.out 2).trans rfl
                          have hcz56_3 : wc.cell? ⟨gb171, 3, none⟩ = some (.int .i64 ((rd_T43 l0_0 x25_2).f3)) := (blk_cell BK171.out 3).trans rfl
                          have hfz56_0 := blk_frozen BK171.out 0
                          have hfz56_1 := blk_frozen BK171.out 1
                          have hfz56_2 := blk_frozen BK171.out 2
                          have hfz56_3 := blk_frozen BK171.out 3
                          go_wp2
                          repeat (go_quiet (fail); try go_wp2)
                          go_ret
                          exact ⟨by first | rfl | (simp [errW_none, errW_some] <;> rfl) | (simp [*, errW_none, errW_some] <;> rfl), by repeat (first | (with_reducible first | exact HB.out | apply below_alloc | apply pw_below_drewN | apply below_drew1 | refine below_set ?_ GE168.out | refine below_set ?_ GE171.out) | exact HB.out)⟩
                        · rw [if_neg c52] at H
                          have c52b0 : decide (58 ≤ ((rd_T43 l0_0 x25_2).f0)) = false := decide_eq_false c52
                          clear c52
                          by_cases c57 : ((rd_T43 l0_0 x25_2).f3) < 1
                          · rw [if_pos c57] at H
                            have c57b0 : decide (((rd_T43 l0_0 x25_2).f3) < 1) = true := decide_eq_true c57
                            clear c57
                            obtain rfl := Option.some.inj H
                            have hnb58 := NB168_171.out
                            have hnc58 := NB171_168.out
                            have hcz59_0 : wc.cell? ⟨gb168, 0, none⟩ = some (.slice (some ad170) l0_0.length c0_0) := (blk_cell BK168.out 0).trans rfl
                            have hfz59_0 := blk_frozen BK168.out 0
                            obtain ⟨Ao60, co60, eo60⟩ := Kd.R_slice HO_3.out
                            subst eo60
                            have hcz61_0 : wc.cell? ⟨gb171, 0, none⟩ = some (.int .u8 ((rd_T43 l0_0 x25_2).f0)) := (blk_cell BK171.out 0).trans rfl
                            have hcz61_1 : wc.cell? ⟨gb171, 1, none⟩ = some (.int .i64 ((rd_T43 l0_0 x25_2).f1)) := (blk_cell BK171.out 1).trans rfl
                            have hcz61_2 : wc.cell? ⟨gb171, 2, none⟩ = some (.int .i64 ((rd_T43 l0_0 x25_2).f2)) := (blk_cell BK171.out 2).trans rfl
                            have hcz61_3 : wc.cell? ⟨gb171, 3, none⟩ = some (.int .i64 ((rd_T43 l0_0 x25_2).f3)) := (blk_cell BK171.out 3).trans rfl
                            have hfz61_0 := blk_frozen BK171.out 0
                            have hfz61_1 := blk_frozen BK171.out 1
                            have hfz61_2 := blk_frozen BK171.out 2
                            have hfz61_3 := blk_frozen BK171.out 3
                            go_wp2
                            repeat (go_quiet (fail); try go_wp2)
                            go_ret
                            exact ⟨by first | rfl | (simp [errW_none, errW_some] <;> rfl) | (simp [*, errW_none, errW_some] <;> rfl), by repeat (first | (with_reducible first | exact HB.out | apply below_alloc | apply pw_below_drewN | apply below_drew1 | refine below_set ?_ GE168.out | refine below_set ?_ GE171.out) | exact HB.out)⟩
                          · rw [if_neg c57] at H
                            have c57b0 : decide (((rd_T43 l0_0 x25_2).f3) < 1) = false := decide_eq_false c57
                            clear c57
                            by_cases c62 : ((rd_T43 l0_0 x25_2).f3) > (wrap64 ((l0_0.length : Int) - x25_2))
                            · rw [if_pos c62] at H
                              have c62b0 : decide ((wrap64 ((l0_0.length : Int) - x25_2)) < ((rd_T43 l0_0 x25_2).f3)) = true := decide_eq_true c62
                              clear c62
                              obtain rfl := Option.some.inj H
                              have hnb63 := NB168_171.out
                              have hnc63 := NB171_168.out
                              have hcz64_0 : wc.cell? ⟨gb168, 0, none⟩ = some (.slice (some ad170) l0_0.length c0_0) := (blk_cell BK168.out 0).trans rfl
                              have hfz64_0 := blk_frozen BK168.out 0
                              obtain ⟨Ao65, co65, eo65⟩ := Kd.R_slice HO_3.out
                              subst eo65
                              have hcz66_0 : wc.cell? ⟨gb171, 0, none⟩ = some (.int .u8 ((rd_T43 l0_0 x25_2).f0)) := (blk_cell BK171.out 0).trans rfl
                              have hcz66_1 : wc.cell? ⟨gb171, 1, none⟩ = some (.int .i64 ((rd_T43 l0_0 x25_2).f1)) := (blk_cell BK171.out 1).trans rfl
                              have hcz66_2 : wc.cell? ⟨gb171, 2, none⟩ = some (.int .i64 ((rd_T43 l0_0 x25_2).f2)) := (blk_cell BK171.out 2).trans rfl
                              have hcz66_3 : wc.cell? ⟨gb171, 3, none⟩ = some (.int .i64 ((rd_T43 l0_0 x25_2).f3)) := (blk_cell BK171.out 3).trans rfl
                              have hfz66_0 := blk_frozen BK171.out 0
                              have hfz66_1 := blk_frozen BK171.out 1
                              have hfz66_2 := blk_frozen BK171.out 2
                              have hfz66_3 := blk_frozen BK171.out 3
                              go_wp2
                              repeat (go_quiet (fail); try go_wp2)
                              go_ret
                              exact ⟨by first | rfl | (simp [errW_none, errW_some] <;> rfl) | (simp [*, errW_none, errW_some] <;> rfl), by repeat (first | (with_reducible first | exact HB.out | apply below_alloc | apply pw_below_drewN | apply below_drew1 | refine below_set ?_ GE168.out | refine below_set ?_ GE171.out) | exact HB.out)⟩
                            · rw [if_neg c62] at H
                              have c62b0 : decide ((wrap64 ((l0_0.length : Int) - x25_2)) < ((rd_T43 l0_0 x25_2).f3)) = false := decide_eq_false c62
                              clear c62
                              by_cases c67 : x3_12.length < 17592186044416
                              · rw [if_pos c67] at H
                                have LMc67 := Aside0.mk c67
                                clear c67
                                obtain ⟨y180, hy180⟩ : ∃ y_ : List Int, y_ = (x3_12 ++ [wrap64 (x25_2 + ((rd_T43 l0_0 x25_2).f3))]) := ⟨_, rfl⟩
                                replace H : (tree_shaped.l0 kj12 y180 l0_0 (l0_0.length : Int) (wrap64 (x25_2 + 1)) l0_0) = some r := by first | (rw [hy180]; with_reducible exact H) | (have H2_ := (Option.bind_some _ _).symm.trans H; rw [hy180]; with_reducible exact H2_) | (have H2_ := (Option.bind_some _ _).symm.trans H; with_reducible exact H2_) | with_reducible exact H | (rw [hy180]; exact H) | exact H
                                have Ny180 := Aside0.mk hy180
                                clear hy180
                                have H' := Aside0.mk H
                                clear H
                                have hnb68 := NB168_171.out
                                have hnc68 := NB171_168.out
                                have hcz69_0 : wc.cell? ⟨gb168, 0, none⟩ = some (.slice (some ad170) l0_0.length c0_0) := (blk_cell BK168.out 0).trans rfl
                                have hfz69_0 := blk_frozen BK168.out 0
                                obtain ⟨Ao70, co70, eo70⟩ := Kd.R_slice HO_3.out
                                subst eo70
                                have hcz71_0 : wc.cell? ⟨gb171, 0, none⟩ = some (.int .u8 ((rd_T43 l0_0 x25_2).f0)) := (blk_cell BK171.out 0).trans rfl
                                have hcz71_1 : wc.cell? ⟨gb171, 1, none⟩ = some (.int .i64 ((rd_T43 l0_0 x25_2).f1)) := (blk_cell BK171.out 1).trans rfl
                                have hcz71_2 : wc.cell? ⟨gb171, 2, none⟩ = some (.int .i64 ((rd_T43 l0_0 x25_2).f2)) := (blk_cell BK171.out 2).trans rfl
                                have hcz71_3 : wc.cell? ⟨gb171, 3, none⟩ = some (.int .i64 ((rd_T43 l0_0 x25_2).f3)) := (blk_cell BK171.out 3).trans rfl
                                have hfz71_0 := blk_frozen BK171.out 0
                                have hfz71_1 := blk_frozen BK171.out 1
                                have hfz71_2 := blk_frozen BK171.out 2
                                have hfz71_3 := blk_frozen BK171.out 3
                                go_wp2_with (first | ((with_reducible refine gate_builtin (b := .append) (xs := #[.tmp 76, .tmp 81]) rfl ?_); (try (refine gate_guard (by rfl) ?_; dsimp only)); at_builtin; refine Kd.R_append (Kd.int .i64) (w0 := w) w.heap.size rfl (.tmp 76) (.tmp 81) 55 3 (.int .i64 0) 8 rfl Tryd.underlying55 info3 rfl (by decide) (by omega) (.slice Ao70 x3_12.length co70) x3_12 (wrap64 (x25_2 + ((rd_T43 l0_0 x25_2).f3))) [.int .i64 (wrap64 (x25_2 + ((rd_T43 l0_0 x25_2).f3)))] (fun _ => True) (fun _ => False) rfl rfl ?aP (fun _ hk => hk.elim) ?aF ?aO ?aB ?aS ?aL ?_; (case aP => exact rfl); (case aB => exact (by repeat (first | (with_reducible first | exact HB.out | apply below_alloc | apply pw_below_drewN | apply below_drew1 | refine below_set ?_ GE168.out | refine below_set ?_ GE171.out) | exact HB.out))); (case aF => exact (fun _ _ => trivial)); (case aO => exact (by (with_reducible repeat (first | apply Kd.R_alloc | apply Kd.R_drewN | apply Kd.R_drew)); exact HO_3.out)); (case aS => exact (below_size (by repeat (first | (with_reducible first | exact HB.out | apply below_alloc | apply pw_below_drewN | apply below_drew1 | refine below_set ?_ GE168.out | refine below_set ?_ GE171.out) | exact HB.out)))); (case aL => have := LMc67.out; omega); intro v181 w72 ho hb hg hat; rw [← Ny180.out] at ho; have n0_ := Aside0.mk (blk_grown (g := gb168) (o := .cells #[.slice (some ad170) l0_0.length c0_0] 24 (0, 0)) (by (with_reducible repeat (first | refine blk_drewN ?_ _ | refine blk_drew ?_ | refine blk_alloc ?_ _)); exact BK168.out) hg (Kd.R_ne HO_3.out BK168.out (by decide))); have n1_ := Aside0.mk (blk_grown (g := gb171) (o := .cells #[.int .u8 ((rd_T43 l0_0 x25_2).f0), .int .i64 ((rd_T43 l0_0 x25_2).f1), .int .i64 ((rd_T43 l0_0 x25_2).f2), .int .i64 ((rd_T43 l0_0 x25_2).f3)] 43 (0, 0)) (by (with_reducible repeat (first | refine blk_drewN ?_ _ | refine blk_drew ?_ | refine blk_alloc ?_ _)); exact BK171.out) hg (Kd.R_ne HO_3.out BK171.out (by decide))); have n2_ := Aside0.mk (hb); have n3_ := Aside0.mk (ho); clear BK168; clear BK171; clear HB; clear HO_3; have BK168 := n0_; have BK171 := n1_; have HB := n2_; have HO182 := n3_; clear n0_ n1_ n2_ n3_; clear ho hb hg hat))
                                repeat (go_quiet (first | ((with_reducible refine gate_builtin (b := .append) (xs := #[.tmp 76, .tmp 81]) rfl ?_); (try (refine gate_guard (by rfl) ?_; dsimp only)); at_builtin; refine Kd.R_append (Kd.int .i64) (w0 := w) w.heap.size rfl (.tmp 76) (.tmp 81) 55 3 (.int .i64 0) 8 rfl Tryd.underlying55 info3 rfl (by decide) (by omega) (.slice Ao70 x3_12.length co70) x3_12 (wrap64 (x25_2 + ((rd_T43 l0_0 x25_2).f3))) [.int .i64 (wrap64 (x25_2 + ((rd_T43 l0_0 x25_2).f3)))] (fun _ => True) (fun _ => False) rfl rfl ?aP (fun _ hk => hk.elim) ?aF ?aO ?aB ?aS ?aL ?_; (case aP => exact rfl); (case aB => exact (by repeat (first | (with_reducible first | exact HB.out | apply below_alloc | apply pw_below_drewN | apply below_drew1 | refine below_set ?_ GE168.out | refine below_set ?_ GE171.out) | exact HB.out))); (case aF => exact (fun _ _ => trivial)); (case aO => exact (by (with_reducible repeat (first | apply Kd.R_alloc | apply Kd.R_drewN | apply Kd.R_drew)); exact HO_3.out)); (case aS => exact (below_size (by repeat (first | (with_reducible first | exact HB.out | apply below_alloc | apply pw_below_drewN | apply below_drew1 | refine below_set ?_ GE168.out | refine below_set ?_ GE171.out) | exact HB.out)))); (case aL => have := LMc67.out; omega); intro v181 w72 ho hb hg hat; rw [← Ny180.out] at ho; have n0_ := Aside0.mk (blk_grown (g := gb168) (o := .cells #[.slice (some ad170) l0_0.length c0_0] 24 (0, 0)) (by (with_reducible repeat (first | refine blk_drewN ?_ _ | refine blk_drew ?_ | refine blk_alloc ?_ _)); exact BK168.out) hg (Kd.R_ne HO_3.out BK168.out (by decide))); have n1_ := Aside0.mk (blk_grown (g := gb171) (o := .cells #[.int .u8 ((rd_T43 l0_0 x25_2).f0), .int .i64 ((rd_T43 l0_0 x25_2).f1), .int .i64 ((rd_T43 l0_0 x25_2).f2), .int .i64 ((rd_T43 l0_0 x25_2).f3)] 43 (0, 0)) (by (with_reducible repeat (first | refine blk_drewN ?_ _ | refine blk_drew ?_ | refine blk_alloc ?_ _)); exact BK171.out) hg (Kd.R_ne HO_3.out BK171.out (by decide))); have n2_ := Aside0.mk (hb); have n3_ := Aside0.mk (ho); clear BK168; clear BK171; clear HB; clear HO_3; have BK168 := n0_; have BK171 := n1_; have HB := n2_; have HO182 := n3_; clear n0_ n1_ n2_ n3_; clear ho hb hg hat)); try go_wp2_with (first | ((with_reducible refine gate_builtin (b := .append) (xs := #[.tmp 76, .tmp 81]) rfl ?_); (try (refine gate_guard (by rfl) ?_; dsimp only)); at_builtin; refine Kd.R_append (Kd.int .i64) (w0 := w) w.heap.size rfl (.tmp 76) (.tmp 81) 55 3 (.int .i64 0) 8 rfl Tryd.underlying55 info3 rfl (by decide) (by omega) (.slice Ao70 x3_12.length co70) x3_12 (wrap64 (x25_2 + ((rd_T43 l0_0 x25_2).f3))) [.int .i64 (wrap64 (x25_2 + ((rd_T43 l0_0 x25_2).f3)))] (fun _ => True) (fun _ => False) rfl rfl ?aP (fun _ hk => hk.elim) ?aF ?aO ?aB ?aS ?aL ?_; (case aP => exact rfl); (case aB => exact (by repeat (first | (with_reducible first | exact HB.out | apply below_alloc | apply pw_below_drewN | apply below_drew1 | refine below_set ?_ GE168.out | refine below_set ?_ GE171.out) | exact HB.out))); (case aF => exact (fun _ _ => trivial)); (case aO => exact (by (with_reducible repeat (first | apply Kd.R_alloc | apply Kd.R_drewN | apply Kd.R_drew)); exact HO_3.out)); (case aS => exact (below_size (by repeat (first | (with_reducible first | exact HB.out | apply below_alloc | apply pw_below_drewN | apply below_drew1 | refine below_set ?_ GE168.out | refine below_set ?_ GE171.out) | exact HB.out)))); (case aL => have := LMc67.out; omega); intro v181 w72 ho hb hg hat; rw [← Ny180.out] at ho; have n0_ := Aside0.mk (blk_grown (g := gb168) (o := .cells #[.slice (some ad170) l0_0.length c0_0] 24 (0, 0)) (by (with_reducible repeat (first | refine blk_drewN ?_ _ | refine blk_drew ?_ | refine blk_alloc ?_ _)); exact BK168.out) hg (Kd.R_ne HO_3.out BK168.out (by decide))); have n1_ := Aside0.mk (blk_grown (g := gb171) (o := .cells #[.int .u8 ((rd_T43 l0_0 x25_2).f0), .int .i64 ((rd_T43 l0_0 x25_2).f1), .int .i64 ((rd_T43 l0_0 x25_2).f2), .int .i64 ((rd_T43 l0_0 x25_2).f3)] 43 (0, 0)) (by (with_reducible repeat (first | refine blk_drewN ?_ _ | refine blk_drew ?_ | refine blk_alloc ?_ _)); exact BK171.out) hg (Kd.R_ne HO_3.out BK171.out (by decide))); have n2_ := Aside0.mk (hb); have n3_ := Aside0.mk (ho); clear BK168; clear BK171; clear HB; clear HO_3; have BK168 := n0_; have BK171 := n1_; have HB := n2_; have HO182 := n3_; clear n0_ n1_ n2_ n3_; clear ho hb hg hat)))
                                go_roundg kj12
                                case measure => have := HJ1.out; have := HK2.out; have := HJ12.out; omega
                                case rel => exact ⟨(y180), (wrap64 (x25_2 + 1)), (by first | rfl | (simp; done) | (simp [*]; done)), H', ⟨by have := HJ1.out; have := HK2.out; have := HJ12.out; omega⟩, ⟨by (with_reducible repeat (first | apply Kd.R_alloc | apply Kd.R_drewN | apply Kd.R_drew)); exact HO182.out⟩, ⟨by (with_reducible repeat (first | refine blk_drewN ?_ _ | refine blk_drew ?_ | refine blk_alloc ?_ _)); exact BK168.out⟩, ⟨by repeat (first | (with_reducible first | exact HB.out | apply below_alloc | apply pw_below_drewN | apply below_drew1 | refine below_set ?_ GE168.out | refine below_set ?_ GE171.out) | exact HB.out)⟩⟩
                              · rw [if_neg c67] at H
                                exact absurd H (by simp)
                · rw [if_neg c12] at H
                  exact absurd H (by simp)
              · rw [if_neg c11] at H
                exact absurd H (by simp)
            · rw [if_neg c10] at H
              have c10b0 : decide (x25_2 < (l0_0.length : Int)) = false := decide_eq_false c10
              clear c10
              obtain rfl := Option.some.inj H
              go_wp2
              repeat (go_quiet (fail); try go_wp2)
              go_ret
              exact ⟨by first | rfl | (simp [errW_none, errW_some] <;> rfl) | (simp [*, errW_none, errW_some] <;> rfl), by repeat (first | (with_reducible first | exact HB.out | apply below_alloc | apply pw_below_drewN | apply below_drew1 | refine below_set ?_ GE168.out) | exact HB.out)⟩

end Go.Proofs.YtodldpdnhcafpaaDoor.F

namespace Go.Proofs.YtodldpdnhcafpaaDoor.Q
open Go.RowKit Go.Proofs.YtodldpdnhcafpaaDoorW.PrintWords Go.Proofs.YtodldpdnhcafpaaDoorW.PrintLast Go.Proofs.YtodldpdnhcafpaaDoorW.PrintMore
open Go.Proofs.YtodldpdnhcafpaaDoor.F
set_option linter.unusedSimpArgs false
set_option linter.unusedVariables false

/-- Are the kids from x on in order up to en? -/
def ck (l : List S43) (en : Int) : Nat → Int → Bool
  | 0, _ => true
  | d + 1, x => if x < en then (if (rd_T43 l x).f3 < 1 then false else if (rd_T43 l x).f3 > en - x then false else ck l en d (x + (rd_T43 l x).f3)) else true
theorem kgo_ck (l : List S43) (en : Int) : ∀ (d : Nat) (pre : List Int) (x : Int), (kgo l en d pre x).2 = ck l en d x
  | 0, _, _ => rfl
  | d + 1, pre, x => by
    simp only [kgo, ck]
    split
    · split
      · rfl
      · split
        · rfl
        · exact kgo_ck l en d _ _
    · rfl
theorem ck_fuel (l : List S43) (en : Int) : ∀ (d d' : Nat) (x : Int), en - x ≤ d → en - x ≤ d' → ck l en d x = ck l en d' x
  | 0, 0, _, _, _ => rfl
  | 0, d' + 1, x, h, _ => by simp only [ck]; rw [if_neg (by omega)]
  | d + 1, 0, x, _, h => by simp only [ck]; rw [if_neg (by omega)]
  | d + 1, d' + 1, x, h, h' => by
    simp only [ck]
    split
    · split
      · rfl
      · split
        · rfl
        · exact ck_fuel l en d d' _ (by omega) (by omega)
    · rfl
def C (l : List S43) (x en : Int) : Bool := ck l en l.length x
theorem C_self (l : List S43) (x : Int) : C l x x = true := by
  unfold C
  cases l.length with
  | zero => rfl
  | succ d => simp only [ck]; rw [if_neg (by omega)]
theorem C_step (l : List S43) (x en : Int) (h0 : 0 ≤ x) (h : x < en) (he : en ≤ l.length) : C l x en = (decide (1 ≤ (rd_T43 l x).f3) && (decide ((rd_T43 l x).f3 ≤ en - x) && C l (x + (rd_T43 l x).f3) en)) := by
  unfold C
  rw [ck_fuel l en l.length (l.length + 1) x (by omega) (by omega)]
  simp only [ck]
  rw [if_pos h]
  by_cases c1 : (rd_T43 l x).f3 < 1
  · rw [if_pos c1, decide_eq_false (by omega)]; rfl
  · rw [if_neg c1, decide_eq_true (show 1 ≤ (rd_T43 l x).f3 by omega)]
    by_cases c2 : (rd_T43 l x).f3 > en - x
    · rw [if_pos c2, decide_eq_false (by omega)]; rfl
    · rw [if_neg c2, decide_eq_true (show (rd_T43 l x).f3 ≤ en - x by omega)]; rfl
theorem kspec_C (l : List S43) (n : Int) : (kspec l n).2 = (sizedB l n && C l (n + 1) (n + (rd_T43 l n).f3)) := by
  unfold kspec C
  split
  · rename_i h; rw [kgo_ck, h]; rfl
  · rename_i h; rw [show sizedB l n = false by simpa using h]; rfl
def good (l : List S43) (n : Int) : Bool := (kspec l n).2 && decide ((rd_T43 l n).f0 < 58)
def allG (l : List S43) : Nat → Int → Bool
  | 0, _ => true
  | f + 1, n => good l n && allG l f (n + 1)
def rem (l : List S43) : Int → List Int → Bool
  | _, [] => true
  | n, e :: s => C l n e && rem l e s
/-- The nodes from n on, the ends of those around from the innermost on. -/
def pops (n : Int) : List Int → List Int
  | [] => []
  | e :: s => if e = n then pops n s else e :: s
def endOf (l : List S43) : List Int → Int
  | [] => l.length
  | e :: _ => e
def run (l : List S43) : Nat → Int → List Int → Bool
  | 0, _, _ => true
  | f + 1, n, s => if (rd_T43 l n).f0 ≥ 58 then false else if (rd_T43 l n).f3 < 1 then false else if (rd_T43 l n).f3 > endOf l (pops n s) - n then false else run l f (n + 1) ((n + (rd_T43 l n).f3) :: pops n s)

/-- What the ends of the nodes around are like. -/
def Ends (l : List S43) (n : Int) (s : List Int) : Prop := ∀ e ∈ s, n ≤ e ∧ e ≤ (l.length : Int)
theorem pops_mem {n e : Int} : ∀ {s : List Int}, e ∈ pops n s → e ∈ s
  | [], h => by simp [pops] at h
  | a :: s, h => by
    simp only [pops] at h
    split at h
    · exact List.mem_cons_of_mem _ (pops_mem h)
    · exact h
theorem rem_pops (l : List S43) (n : Int) : ∀ s : List Int, rem l n s = rem l n (pops n s)
  | [] => rfl
  | e :: s => by
    simp only [pops]
    split
    · rename_i h
      subst h
      simp only [rem]
      rw [C_self, Bool.true_and]
      exact rem_pops l e s
    · rfl
theorem pops_head {n e : Int} {s t : List Int} (h : pops n s = e :: t) : e ≠ n := by
  induction s with
  | nil => simp [pops] at h
  | cons a s ih =>
    simp only [pops] at h
    split at h
    · exact ih h
    · rename_i hne
      obtain ⟨rfl, _⟩ := List.cons.inj h
      exact hne
theorem rem_full (l : List S43) : ∀ s : List Int, Ends l l.length s → rem l l.length s = true
  | [], _ => rfl
  | e :: s, h => by
    have h1 := h e List.mem_cons_self
    have : e = (l.length : Int) := by omega
    subst this
    simp only [rem]
    rw [C_self, Bool.true_and]
    exact rem_full l s (fun x hx => h x (List.mem_cons_of_mem _ hx))
theorem pops_last (n : Int) (z : Int) (hz : z ≠ n) : ∀ s : List Int, s.getLast? = some z → (pops n s).getLast? = some z
  | [], h => by simp at h
  | e :: s, h => by
    simp only [pops]
    split
    · rename_i he
      cases s with
      | nil => simp at h; omega
      | cons a s =>
        rw [List.getLast?_cons_cons] at h
        exact pops_last n z hz (a :: s) h
    · exact h
theorem pops_suffix (n : Int) : ∀ s : List Int, pops n s <:+ s
  | [] => List.suffix_refl _
  | e :: s => by
    simp only [pops]
    split
    · exact (pops_suffix n s).trans (List.suffix_cons _ _)
    · exact List.suffix_refl _
theorem run_rem (l : List S43) : ∀ (f : Nat) (n : Int) (s : List Int), (l.length : Int) - n = f → 0 ≤ n → Ends l n s → s.Pairwise (· ≤ ·) → s.getLast? = some (l.length : Int) → run l f n s = (rem l n s && allG l f n)
  | 0, n, s, hf, h0, hs, ho, hz => by
    have : n = (l.length : Int) := by omega
    subst this
    rw [rem_full l s hs]
    rfl
  | f + 1, n, s, hf, h0, hs, ho, hz => by
    have hlt : n < (l.length : Int) := by omega
    have hz2 := pops_last n (l.length : Int) (by omega) s hz
    rw [rem_pops]
    simp only [run, allG]
    cases hp : pops n s with
    | nil => rw [hp] at hz2; simp at hz2
    | cons e t =>
      have hne := pops_head hp
      have he : e ∈ s := pops_mem (by rw [hp]; exact List.mem_cons_self)
      have hes := hs e he
      have hen : n < e := by omega
      have hop : (e :: t).Pairwise (· ≤ ·) := by rw [← hp]; exact ho.sublist (pops_suffix n s).sublist
      have hE : endOf l (e :: t) = e := rfl
      simp only [rem]
      rw [hE, C_step l n e h0 hen hes.2]
      unfold good
      rw [kspec_C]
      unfold sizedB
      rw [decide_eq_true h0, decide_eq_true hlt]
      by_cases c0 : (rd_T43 l n).f0 ≥ 58
      · rw [if_pos c0, decide_eq_false (show ¬ (rd_T43 l n).f0 < 58 by omega)]; simp
      · rw [if_neg c0, decide_eq_true (show (rd_T43 l n).f0 < 58 by omega)]
        by_cases c1 : (rd_T43 l n).f3 < 1
        · rw [if_pos c1, decide_eq_false (show ¬ 1 ≤ (rd_T43 l n).f3 by omega)]; simp
        · rw [if_neg c1, decide_eq_true (show 1 ≤ (rd_T43 l n).f3 by omega)]
          by_cases c2 : (rd_T43 l n).f3 > e - n
          · rw [if_pos c2, decide_eq_false (show ¬ (rd_T43 l n).f3 ≤ e - n by omega)]; simp
          · rw [if_neg c2, decide_eq_true (show (rd_T43 l n).f3 ≤ e - n by omega), decide_eq_true (show (rd_T43 l n).f3 ≤ (l.length : Int) - n by omega)]
            rw [run_rem l f (n + 1) ((n + (rd_T43 l n).f3) :: e :: t) (by omega) (by omega) ?_ ?_ ?_]
            · simp only [rem, Bool.true_and, Bool.and_true]
              generalize C l (n + 1) (n + (rd_T43 l n).f3) = x1
              generalize C l (n + (rd_T43 l n).f3) e = x2
              generalize rem l e t = x3
              generalize allG l f (n + 1) = x4
              cases x1 <;> cases x2 <;> cases x3 <;> cases x4 <;> rfl
            · intro x hx
              rcases List.mem_cons.1 hx with rfl | hx
              · omega
              · have hx2 : x ∈ pops n s := by rw [hp]; exact hx
                have h3 := hs x (pops_mem hx2)
                rcases List.mem_cons.1 hx with rfl | hx
                · omega
                · have := (List.pairwise_cons.1 hop).1 x hx
                  omega
            · refine List.pairwise_cons.2 ⟨fun x hx => ?_, hop⟩
              rcases List.mem_cons.1 hx with rfl | hx
              · omega
              · have := (List.pairwise_cons.1 hop).1 x hx
                omega
            · rw [List.getLast?_cons_cons, ← hp]; exact hz2

def shapedB (l : List S43) : Bool := decide (0 < l.length) && (decide ((rd_T43 l 0).f3 = (l.length : Int)) && allG l l.length 0)
theorem run_all (l : List S43) (h : 0 < l.length) (hz : (rd_T43 l 0).f3 = (l.length : Int)) : run l l.length 0 [] = allG l l.length 0 := by
  obtain ⟨f, hf⟩ : ∃ f, l.length = f + 1 := ⟨l.length - 1, by omega⟩
  have h1 : run l f 1 [(l.length : Int)] = (rem l 1 [(l.length : Int)] && allG l f 1) := by
    refine run_rem l f 1 _ (by omega) (by omega) ?_ (by simp) (by simp)
    intro e he
    simp at he
    omega
  rw [hf]
  simp only [run, allG]
  have hP : pops 0 [] = [] := rfl
  have hE : endOf l [] = (l.length : Int) := rfl
  rw [hP, hE, hz, Int.zero_add, Int.zero_add, h1]
  unfold good
  rw [kspec_C]
  unfold sizedB
  rw [hz, Int.zero_add, Int.zero_add, decide_eq_true (show (0 : Int) ≤ 0 by omega), decide_eq_true (show (0 : Int) < (l.length : Int) by omega), decide_eq_true (show (1 : Int) ≤ (l.length : Int) by omega), decide_eq_true (show (l.length : Int) ≤ (l.length : Int) - 0 by omega)]
  rw [if_neg (show ¬ (l.length : Int) < 1 by omega), if_neg (show ¬ (l.length : Int) > (l.length : Int) - 0 by omega)]
  simp only [rem]
  by_cases c : (rd_T43 l 0).f0 ≥ 58
  · rw [if_pos c, decide_eq_false (show ¬ (rd_T43 l 0).f0 < 58 by omega)]; simp
  · rw [if_neg c, decide_eq_true (show (rd_T43 l 0).f0 < 58 by omega)]; simp

theorem last_rev (e : Int) (s : List Int) : rd ((e :: s).reverse) (wrap64 (((e :: s).reverse.length : Int) - 1)) = e ∨ ¬ (e :: s).length ≤ 9223372036854775807 := by
  by_cases h : (e :: s).length ≤ 9223372036854775807
  · left
    rw [List.length_reverse, kw64 (by omega) (by simp only [List.length_cons] at h ⊢; omega)]
    unfold rd
    rw [show (((e :: s).length : Int) - 1).toNat = s.length by simp only [List.length_cons]; omega, List.reverse_cons]
    simp [List.getD_eq_getElem?_getD]
  · exact .inr h
/-- tree.shaped's two inner parts. -/
theorem shaped_loop (l : List S43) (hl : l.length ≤ 4398046511104) : ∀ (f : Nat) (n : Int) (s : List Int), (l.length : Int) - n = f → 0 ≤ n → (∀ e ∈ s, 0 ≤ e ∧ e ≤ (l.length : Int)) → (s.length : Int) ≤ n →
    Ev (fun k => tree_shaped.l0 k s.reverse l (l.length : Int) n l) (run l f n s)
  | 0, n, s, hf, h0, hs, hb => by
    refine ⟨1, fun m hm => ?_⟩
    obtain ⟨k, rfl⟩ : ∃ j, m = j + 1 := ⟨m - 1, by omega⟩
    simp only [tree_shaped.l0, run]
    rw [if_neg (by omega)]
  | f + 1, n, s, hf, h0, hs, hb => by
    have hlt : n < (l.length : Int) := by omega
    have hw1 : wrap64 (n + 1) = n + 1 := kw64 (by omega) (by omega)
    refine Ev.step (f := fun k => tree_shaped.l1 k s.reverse n l (l.length : Int) n l (rd_T43 l n).f0 (rd_T43 l n).f1 (rd_T43 l n).f2 (rd_T43 l n).f3) (fun k => by
      simp only [tree_shaped.l0]
      rw [if_pos hlt, if_pos h0, if_pos hlt]) ?_
    have tail : ∀ s : List Int, (∀ e ∈ s, 0 ≤ e ∧ e ≤ (l.length : Int)) → (s.length : Int) ≤ n →
        Ev (fun k => tree_shaped.j3 k s.reverse n l (l.length : Int) n l (rd_T43 l n).f0 (rd_T43 l n).f1 (rd_T43 l n).f2 (rd_T43 l n).f3)
          (if (rd_T43 l n).f0 ≥ 58 then false else if (rd_T43 l n).f3 < 1 then false else if (rd_T43 l n).f3 > endOf l s - n then false else run l f (n + 1) ((n + (rd_T43 l n).f3) :: s)) := by
      intro s hs hb
      have hend : 0 ≤ endOf l s ∧ endOf l s ≤ (l.length : Int) := by
        cases s with
        | nil => simp only [endOf]; omega
        | cons e s => exact hs e List.mem_cons_self
      have hwe : wrap64 (endOf l s - n) = endOf l s - n := kw64 (by omega) (by omega)
      have hlim : s.reverse.length < 17592186044416 := by rw [List.length_reverse]; omega
      have key : ∀ k, tree_shaped.j3 (k + 1) s.reverse n l (l.length : Int) n l (rd_T43 l n).f0 (rd_T43 l n).f1 (rd_T43 l n).f2 (rd_T43 l n).f3 =
          if (rd_T43 l n).f0 ≥ 58 then some false else if (rd_T43 l n).f3 < 1 then some false else if (rd_T43 l n).f3 > endOf l s - n then some false else tree_shaped.l0 k (s.reverse ++ [wrap64 (n + (rd_T43 l n).f3)]) l (l.length : Int) (n + 1) l := by
        intro k
        simp only [tree_shaped.j3, hw1]
        cases s with
        | nil =>
          have hE : endOf l [] = (l.length : Int) := rfl
          rw [hE] at hwe ⊢
          rw [if_neg (by simp), hwe, if_pos hlim]
        | cons e s =>
          have hE : endOf l (e :: s) = e := rfl
          rw [hE] at hwe ⊢
          have hr := (last_rev e s).resolve_right (fun h => h (by omega))
          have hlen : ((e :: s).reverse.length : Int) = (s.length : Int) + 1 := by rw [List.length_reverse, List.length_cons]; omega
          simp only [List.length_cons] at hb
          rw [hr, hwe, if_pos hlim, hlen, kw64 (by omega) (by omega), if_pos (by omega), if_pos (by omega), if_pos (by omega)]
      by_cases c0 : (rd_T43 l n).f0 ≥ 58
      · rw [if_pos c0]; exact ⟨1, fun m hm => by obtain ⟨k, rfl⟩ : ∃ j, m = j + 1 := ⟨m - 1, by omega⟩; simp only; rw [key, if_pos c0]⟩
      · rw [if_neg c0]
        by_cases c1 : (rd_T43 l n).f3 < 1
        · rw [if_pos c1]; exact ⟨1, fun m hm => by obtain ⟨k, rfl⟩ : ∃ j, m = j + 1 := ⟨m - 1, by omega⟩; simp only; rw [key, if_neg c0, if_pos c1]⟩
        · rw [if_neg c1]
          by_cases c2 : (rd_T43 l n).f3 > endOf l s - n
          · rw [if_pos c2]; exact ⟨1, fun m hm => by obtain ⟨k, rfl⟩ : ∃ j, m = j + 1 := ⟨m - 1, by omega⟩; simp only; rw [key, if_neg c0, if_neg c1, if_pos c2]⟩
          · rw [if_neg c2]
            have ih := shaped_loop l hl f (n + 1) ((n + (rd_T43 l n).f3) :: s) (by omega) (by omega) (fun e he => by
              rcases List.mem_cons.1 he with rfl | he
              · omega
              · exact hs e he) (by rw [List.length_cons]; omega)
            refine Ev.step (fun k => ?_) ih
            rw [key, if_neg c0, if_neg c1, if_neg c2, List.reverse_cons, kw64 (by omega) (by omega)]
    have pop : ∀ s : List Int, (∀ e ∈ s, 0 ≤ e ∧ e ≤ (l.length : Int)) → (s.length : Int) ≤ n →
        Ev (fun k => tree_shaped.l1 k s.reverse n l (l.length : Int) n l (rd_T43 l n).f0 (rd_T43 l n).f1 (rd_T43 l n).f2 (rd_T43 l n).f3)
          (if (rd_T43 l n).f0 ≥ 58 then false else if (rd_T43 l n).f3 < 1 then false else if (rd_T43 l n).f3 > endOf l (pops n s) - n then false else run l f (n + 1) ((n + (rd_T43 l n).f3) :: pops n s)) := by
      intro s
      induction s with
      | nil =>
        intro hs hb
        have := tail [] hs hb
        have hP : pops n [] = [] := rfl
        rw [hP]
        refine Ev.step (fun k => ?_) this
        simp only [tree_shaped.l1]
        rw [if_neg (by simp)]
      | cons e s ih =>
        intro hs hb
        have hr := (last_rev e s).resolve_right (fun h => h (by omega))
        have hlen : ((e :: s).reverse.length : Int) = (s.length : Int) + 1 := by rw [List.length_reverse, List.length_cons]; omega
        simp only [List.length_cons] at hb
        have hw : wrap64 ((s.length : Int) + 1 - 1) = (s.length : Int) := by rw [kw64] <;> omega
        by_cases c : e = n
        · have hP : pops n (e :: s) = pops n s := by simp only [pops]; rw [if_pos c]
          rw [hP]
          have i1 := ih (fun x hx => hs x (List.mem_cons_of_mem _ hx)) (by omega)
          refine Ev.step (fun k => ?_) i1
          simp only [tree_shaped.l1]
          rw [hr, if_pos (by omega), hlen, hw, if_pos (by omega), if_pos (by omega), if_pos c, if_pos (by omega), Int.toNat_natCast, List.reverse_cons, List.take_append_of_le_length (by simp), List.take_of_length_le (by simp)]
        · have hP : pops n (e :: s) = e :: s := by simp only [pops]; rw [if_neg c]
          rw [hP]
          have := tail (e :: s) hs (by rw [List.length_cons]; omega)
          refine Ev.step (fun k => ?_) this
          simp only [tree_shaped.l1]
          rw [hr, if_pos (by omega), hlen, hw, if_pos (by omega), if_pos (by omega), if_neg c]
    simp only [run]
    exact pop s hs hb
theorem shaped_is (l : List S43) (hl : l.length ≤ 4398046511104) : Ev (fun k => tree_shaped.f k l) (shapedB l) := by
  unfold tree_shaped.f shapedB
  have hbad : Ev (fun k => tree_shaped.j0 k true l) false := ⟨1, fun m hm => by
    obtain ⟨k, rfl⟩ : ∃ j, m = j + 1 := ⟨m - 1, by omega⟩
    simp only [tree_shaped.j0]; rfl⟩
  by_cases h : (l.length : Int) = 0
  · simp only [if_pos h, decide_eq_false (show ¬ 0 < l.length by omega), Bool.false_and]; exact hbad
  · simp only [if_neg h, if_pos (show 0 < (l.length : Int) by omega), decide_eq_true (show 0 < l.length by omega), Bool.true_and]
    by_cases hz : (rd_T43 l 0).f3 = (l.length : Int)
    · rw [decide_eq_true hz, Bool.true_and, ← run_all l (by omega) hz]
      have hne : ((rd_T43 l 0).f3 != (l.length : Int)) = false := bne_eq_false_iff_eq.mpr hz
      simp only [hne]
      have := shaped_loop l hl l.length 0 [] (by omega) (by omega) (by simp) (by simp)
      refine Ev.step (fun k => ?_) this
      simp only [tree_shaped.j0]
      rw [if_neg (by simp)]
      rfl
    · rw [decide_eq_false hz, Bool.false_and]
      have hne : ((rd_T43 l 0).f3 != (l.length : Int)) = true := bne_iff_ne.mpr hz
      simp only [hne]
      exact hbad
theorem rshaped_loop (l : List S43) (hl : l.length ≤ 4398046511104) (hk : ∀ x ∈ l, 0 ≤ x.f0 ∧ x.f0 ≤ 255) : ∀ (f : Nat) (n : Int), (l.length : Int) - n = f → 0 ≤ n → Ev (fun k => monikerref4_Shaped.l0 k n l) (allG l f n)
  | 0, n, hf, h0 => by
    refine ⟨1, fun m hm => ?_⟩
    obtain ⟨k, rfl⟩ : ∃ j, m = j + 1 := ⟨m - 1, by omega⟩
    simp only [monikerref4_Shaped.l0, allG]
    rw [if_neg (by omega)]
  | f + 1, n, hf, h0 => by
    have hlt : n < (l.length : Int) := by omega
    have ih := rshaped_loop l hl hk f (n + 1) (by omega) (by omega)
    have hw1 : wrap64 (n + 1) = n + 1 := kw64 (by omega) (by omega)
    obtain ⟨_, _, k3⟩ := Kids_all l hl n
    have hkn : 0 ≤ (rd_T43 l n).f0 ∧ (rd_T43 l n).f0 ≤ 255 := by
      have : rd_T43 l n = l[n.toNat]'(by omega) := by simp [rd_T43, List.getD_eq_getElem?_getD, show n.toNat < l.length by omega]
      rw [this]
      exact hk _ (List.getElem_mem _)
    have hw0 : wrap64 (rd_T43 l n).f0 = (rd_T43 l n).f0 := kw64 (by omega) (by omega)
    simp only [allG]
    unfold good
    refine Ev.step (f := fun k => (monikerref4_Kids.f k l n).bind fun bt292 => (if bt292.2 = true then (if 0 ≤ n then (if (rd_T43 l n).f0 ≥ 58 then (some false) else (monikerref4_Shaped.l0 k (n + 1) l)) else (none)) else (some false))) (fun k => by
      simp only [monikerref4_Shaped.l0, hw0, hw1]
      rw [if_pos hlt]) ?_
    refine k3.bind ?_
    by_cases c : (kspec l n).2 = true
    · simp only [if_pos c, if_pos h0]
      rw [c, Bool.true_and]
      by_cases c0 : (rd_T43 l n).f0 ≥ 58
      · simp only [if_pos c0]
        rw [decide_eq_false (show ¬ (rd_T43 l n).f0 < 58 by omega), Bool.false_and]
        exact Ev.now _
      · simp only [if_neg c0]
        rw [decide_eq_true (show (rd_T43 l n).f0 < 58 by omega), Bool.true_and]
        exact ih
    · simp only [if_neg c]
      rw [show (kspec l n).2 = false by simpa using c, Bool.false_and, Bool.false_and]
      exact Ev.now _
theorem RShaped_is (l : List S43) (hl : l.length ≤ 4398046511104) (hk : ∀ x ∈ l, 0 ≤ x.f0 ∧ x.f0 ≤ 255) : Ev (fun k => monikerref4_Shaped.f k l) (shapedB l) := by
  unfold monikerref4_Shaped.f shapedB
  have hbad : Ev (fun k => monikerref4_Shaped.j0 k true l) false := ⟨1, fun m hm => by
    obtain ⟨k, rfl⟩ : ∃ j, m = j + 1 := ⟨m - 1, by omega⟩
    simp only [monikerref4_Shaped.j0]; rfl⟩
  by_cases h : (l.length : Int) = 0
  · simp only [if_pos h, decide_eq_false (show ¬ 0 < l.length by omega), Bool.false_and]; exact hbad
  · simp only [if_neg h, if_pos (show 0 < (l.length : Int) by omega), decide_eq_true (show 0 < l.length by omega), Bool.true_and]
    by_cases hz : (rd_T43 l 0).f3 = (l.length : Int)
    · rw [decide_eq_true hz, Bool.true_and]
      have hne : ((rd_T43 l 0).f3 != (l.length : Int)) = false := bne_eq_false_iff_eq.mpr hz
      simp only [hne]
      refine Ev.step (fun k => ?_) (rshaped_loop l hl hk l.length 0 (by omega) (by omega))
      simp only [monikerref4_Shaped.j0]
      rw [if_neg (by simp)]
    · rw [decide_eq_false hz, Bool.false_and]
      have hne : ((rd_T43 l 0).f3 != (l.length : Int)) = true := bne_iff_ne.mpr hz
      simp only [hne]
      exact hbad
end Go.Proofs.YtodldpdnhcafpaaDoor.Q

/-
  DERIVED: THE SHELF's CONTRACTS AT THIS DUMP, IN PLAIN WORDS (tools/lay-plain.mjs out of 'TrydShelf.lean', which tools/lay-shelf.mjs wrote): THE SAME DECLARATIONS UNDER THE SAME NAMES: 'import', 'namespace', 'open', 'def', 'theorem' AND NOTHING ELSE: no command of the shelf's: FOR A HAND-IN. Each laying: the table of numbers ('.._ren') and one theorem, a field a fact of the dump's own or the kernel's comparison; each contract: ONE APPLICATION.
-/
namespace Go.Proofs
open Go.Shelf
def Tryd.lays169_ren : Go.Shelf.Ren := ⟨fun | 169 => 41 | n => n, fun | 70 => 78 | 9 => 9 | 0 => 0 | 72 => 81 | 37 => 79 | 127 => 101 | 3 => 3 | 5 => 5 | n => n, fun | n => n⟩
theorem Tryd.lays169 : Go.Proofs.Lays.n169 Tryd.prog Tryd.lays169_ren := {
  mixed := by kernel_rfl
  f169 := Tryd.func41.trans (congrArg some (by kernel_rfl))
  t0 := Tryd.underlying0
  a0 := Tryd.isAgg0
  z0 := Tryd.sizeOf0
  v0 := Tryd.zeroValue0
  t3 := Tryd.underlying3
  a3 := Tryd.isAgg3
  z3 := Tryd.sizeOf3
  v3 := Tryd.zeroValue3
  t9 := Tryd.underlying9
  a9 := Tryd.isAgg9
  z9 := Tryd.sizeOf9
  v9 := Tryd.zeroValue9
  t37 := Tryd.underlying79
  a37 := Tryd.isAgg79
  z37 := Tryd.sizeOf79
  v37 := Tryd.zeroValue79
  t70 := Tryd.underlying78
  a70 := Tryd.isAgg78
  z70 := Tryd.sizeOf78
  v70 := Tryd.zeroValue78
  t72 := Tryd.underlying81
  a72 := Tryd.isAgg81
  z72 := Tryd.sizeOf81
  v72 := Tryd.zeroValue81
  t127 := Tryd.underlying101
  a127 := Tryd.isAgg101
  z127 := Tryd.sizeOf101
  v127 := Tryd.zeroValue101 }
theorem Tryd.Builder_Extra_169 : Builder.Extra Tryd.prog Tryd.lays169_ren := {
  sizeBuilder := by kernel_rfl
  liesBuilder := by kernel_rfl
  t5 := Tryd.underlying5
  a5 := Tryd.isAgg5
  z5 := Tryd.sizeOf5
  v5 := Tryd.zeroValue5
  infoByte := by kernel_rfl
  cellsByte := by kernel_rfl
  sizeByte := by kernel_rfl
  neB5 := by decide }
open Go.RowKit in
/-- (*strings.Builder).String: "String returns the accumulated string.": WHATEVER THE BUILDER HOLDS; THE FORM '_k': OVER 'Lib.IsBuilderF' (a builder that 'String()' may have read), AND WITH THE FRAME THAT REACHES ABOVE THE BUILDER: 'Lib.OthersKept': every block that is not b and is no row of uint8's stands as it stood: the iterator of a range among them. (LAID: no walk: one application.) -/
theorem Tryd.Builder_String_any_k (B b : Nat) (l : List UInt8) (w : World) (h : Lib.IsBuilderF 81 5 B b (Lib.byteCells l) w) (hBw : B ≤ w.heap.size) :
    Calls Tryd.prog 41 #[.pointer (some ⟨b, 0, none⟩)] w fun e w' => e = .returned (.string ⟨l.toArray⟩) ∧ (Lib.IsBuilderF 81 5 B b (Lib.byteCells l) w' ∧ Below B w w' ∧ Lib.OthersKept 5 (some b) w w') := Any.Builder_String_any_k Tryd.lays169 Tryd.Builder_Extra_169 B b l w h hBw
end Go.Proofs

-- strings.Builder (58, 39, 40): copyCheck, WriteByte, WriteString at this dump; String (41) stands in Shelf
namespace Go.Proofs.YtodldpdnhcafpaaDoor.K
open Go.RowKit Go.Shelf
set_option linter.unusedVariables false
set_option linter.unusedSimpArgs false
theorem szB : (Tryd.prog.info? 81).map (·.size) = some 2 := by kernel_rfl
theorem liesB : liesAt Tryd.prog Tryd.prog.depth 81 (2 / Tryd.prog.cellsOf 81) 0 81 1 = true := by kernel_rfl
theorem infoByte5 : (Tryd.prog.info? 5).map (fun i => (i.zero, i.size, i.bytes)) = some (some (.int .u8 0), 1, 1) := by kernel_rfl
set_option maxHeartbeats 1000000 in
set_option maxRecDepth 100000 in
theorem copyCheck_used (b : Nat) (w : World) (h0 : w.cell? ⟨b, 0, none⟩ = some (.pointer (some ⟨b, 0, none⟩))) :
    Calls Tryd.prog 58 #[.pointer (some ⟨b, 0, none⟩)] w fun e w' => e = .returned (.tuple #[]) ∧ w' = w := by
  obtain ⟨j, hj, _⟩ := Option.map_eq_some_iff.1 szB
  go_enter Tryd.func58, Tryd.ntmps58
  go_wp2
  rw [Lib.run_neq_ptr_same w _ Tryd.underlying78 hj]
  go_wp2
  go_end0
  exact ⟨rfl, rfl⟩
set_option maxHeartbeats 1000000 in
set_option maxRecDepth 100000 in
theorem copyCheck_fresh (b : Nat) (w : World) (h0 : w.cell? ⟨b, 0, none⟩ = some (.pointer none)) (hsh : w.shape? b = some (81, 2)) (hfz : w.frozen? ⟨b, 0, none⟩ = false) :
    Calls Tryd.prog 58 #[.pointer (some ⟨b, 0, none⟩)] w fun e w' => e = .returned (.tuple #[]) ∧ w' = w.setCell ⟨b, 0, none⟩ (.pointer (some ⟨b, 0, none⟩)) := by
  obtain ⟨j, hj, hjs⟩ := Option.map_eq_some_iff.1 szB
  go_enter Tryd.func58, Tryd.ntmps58
  go_wp2
  rw [Lib.run_to_unsafe w ⟨b, 0, none⟩ Tryd.underlying78 Tryd.underlying116 hj (by rw [hjs]; decide) hsh (Nat.zero_lt_succ 1)]
  simp only [Result.andThen]
  rw [Oper.upon_value]
  go_wp2
  rw [run_callFunc_extern Tryd.func67 (by kernel_rfl) (by kernel_rfl) (by kernel_rfl) (e := Extern.AbiNoEscape.same) (by kernel_rfl)]
  rw [Lib.run_noEscape]
  simp only [Result.andThen]
  rw [Oper.upon_value]
  go_wp2
  rw [Lib.run_from_unsafe w ⟨b, 0, none⟩ Tryd.underlying116 Tryd.underlying78 hj hsh liesB]
  simp only [Result.andThen]
  rw [Oper.upon_value]
  go_wp2
  go_end0
  exact ⟨rfl, rfl⟩
theorem copyCheck_k (B b : Nat) (bs : List Value) (w : World) (h : Lib.IsBuilderF 81 5 B b bs w) :
    Calls Tryd.prog 58 #[.pointer (some ⟨b, 0, none⟩)] w fun e w' => e = .returned (.tuple #[]) ∧ (Lib.BuilderAtF 81 5 B b (.pointer (some ⟨b, 0, none⟩)) bs w' ∧ Below B w w' ∧ Lib.OthersKept 5 (some b) w w') := by
  rcases h with h | h
  · refine (copyCheck_fresh b w h.cell0 h.shape h.frozen0).mono ?_
    rintro e w' ⟨rfl, rfl⟩
    exact ⟨rfl, h.used _, (Below.refl B w).setCell (p := ⟨b, 0, none⟩) h.1 _, (Lib.OthersKept.refl _ _ w).setCell ⟨b, 0, none⟩ rfl _⟩
  · refine (copyCheck_used b w h.cell0).mono ?_
    rintro e w' ⟨rfl, rfl⟩
    exact ⟨rfl, h, Below.refl B _, Lib.OthersKept.refl _ _ _⟩
set_option maxHeartbeats 2000000 in
set_option maxRecDepth 100000 in
theorem WriteByte_k (B b : Nat) (bs : List Value) (c : Int) (w : World) (h : Lib.IsBuilderF 81 5 B b bs w) (hlen : bs.length + 1 ≤ 140737488355328) (hBw : B ≤ w.heap.size) :
    Calls Tryd.prog 39 #[.pointer (some ⟨b, 0, none⟩), .int .u8 c] w fun e w' => e = .returned .nilIface ∧ (Lib.BuilderAtF 81 5 B b (.pointer (some ⟨b, 0, none⟩)) (bs ++ [.int .u8 c]) w' ∧ Below B w w' ∧ Lib.OthersKept 5 (some b) w w') := by
  obtain ⟨i0, hi, hz0, hz1, hz2⟩ := info_parts infoByte5
  have e58 : ∀ args w, (callFunc 58 args).run Tryd.prog w = .ok (.enter 58 args) w := enters_of Tryd.func58 (by kernel_rfl) rfl
  go_enter Tryd.func39, Tryd.ntmps39
  go_wp2_with (go_at_fn 58; refine (copyCheck_k B b bs _ h).mono ?_)
  rintro e w1 ⟨rfl, h1, hb1, hk1⟩
  obtain ⟨hB, v, hbk, hown, hne⟩ := h1
  have c0 : w1.cell? ⟨b, 0, none⟩ = some (.pointer (some ⟨b, 0, none⟩)) := by rw [Lib.cell_of_heap hbk]; rfl
  have c1 : w1.cell? ⟨b, 1, none⟩ = some v := by rw [Lib.cell_of_heap hbk]; rfl
  go_wp2_with (at_builtin; refine wpList_append_ownF _ rfl _ _ 79 rfl B 5 i0 (.int .u8 0) 1 1 Tryd.underlying79 hi hz0 hz1 hz2 rfl (by decide) _ _ _ rfl (hown.alloc _) ⟨w1.heap.size, 0, none⟩ 1 1 [.int .u8 c] rfl rfl ?c1 ?c2 ?c3 ?c4 ?c5 ?_)
  case c1 =>
    intro j u hj
    match j, hj with
    | 0, hj => simp at hj; subst hj; simp [Addr.add]
  case c2 => intro u hu; simp at hu; subst hu; rfl
  case c3 => unfold maxLen; omega
  case c4 => omega
  case c5 => have := hb1.size; simp; omega
  intro v' w2 hown' hgrow _
  have hlt : b < w1.heap.size := by
    rcases Nat.lt_or_ge b w1.heap.size with h' | h'
    · exact h'
    · simp [Array.getElem?_eq_none h'] at hbk
  have hb2 : w2.heap[b]? = some (.cells #[.pointer (some ⟨b, 0, none⟩), v] 81 (0, 0)) := by
    rw [hgrow.block b (by simp; omega) (fun e => hne e.symm), Lib.alloc_old w1 _ b hlt]
    exact hbk
  have d0 : w2.cell? ⟨b, 0, none⟩ = some (.pointer (some ⟨b, 0, none⟩)) := by rw [Lib.cell_of_heap hb2]; rfl
  have d1 : w2.cell? ⟨b, 1, none⟩ = some v := by rw [Lib.cell_of_heap hb2]; rfl
  have f1 : w2.frozen? ⟨b, 1, none⟩ = false := Lib.frozen_of_heap hb2 1
  obtain ⟨g, cap, rfl⟩ : ∃ g cap, v' = .slice (some ⟨g, 0, none⟩) (bs.length + 1) cap := by
    rcases hown'.2 with ⟨_, h0⟩ | ⟨g, cap, cur, fz, hv, _⟩
    · omega
    · exact ⟨g, cap, hv⟩
  go_wp2
  go_ret
  refine ⟨rfl, ?_, ?_, ((hk1.alloc _).grown hgrow (Lib.ownsRowF_kind (hown.alloc _))).setCell ⟨b, 1, none⟩ rfl _⟩
  · exact Lib.BuilderAtF.put (T := 81) (e := 5) hB hb2 (bs' := bs ++ [.int .u8 c]) (by simpa using hown') (by decide)
  · exact ((hb1.alloc (by have := hb1.size; omega) _).grown hgrow (by have := hb1.size; simp; omega) (fun k hk => (hown.lt k hk).1)).setCell (p := ⟨b, 1, none⟩) hB _
set_option maxHeartbeats 2000000 in
set_option maxRecDepth 100000 in
theorem WriteString_k (B b : Nat) (bs : List Value) (s : ByteArray) (w : World) (h : Lib.IsBuilderF 81 5 B b bs w) (hlen : bs.length + s.size ≤ 140737488355328) (hBw : B ≤ w.heap.size) :
    Calls Tryd.prog 40 #[.pointer (some ⟨b, 0, none⟩), .string s] w fun e w' => e = .returned (.tuple #[.int .i64 s.size, .nilIface]) ∧ (Lib.BuilderAtF 81 5 B b (.pointer (some ⟨b, 0, none⟩)) (bs ++ Lib.strCells s) w' ∧ Below B w w' ∧ Lib.OthersKept 5 (some b) w w') := by
  obtain ⟨i0, hi, hz0, hz1, hz2⟩ := info_parts infoByte5
  have e58 : ∀ args w, (callFunc 58 args).run Tryd.prog w = .ok (.enter 58 args) w := enters_of Tryd.func58 (by kernel_rfl) rfl
  go_enter Tryd.func40, Tryd.ntmps40
  go_wp2_with (go_at_fn 58; refine (copyCheck_k B b bs _ h).mono ?_)
  rintro e w1 ⟨rfl, h1, hb1, hk1⟩
  obtain ⟨hB, v, hbk, hown, hne⟩ := h1
  have c0 : w1.cell? ⟨b, 0, none⟩ = some (.pointer (some ⟨b, 0, none⟩)) := by rw [Lib.cell_of_heap hbk]; rfl
  have c1 : w1.cell? ⟨b, 1, none⟩ = some v := by rw [Lib.cell_of_heap hbk]; rfl
  go_wp2_with (at_builtin; refine Lib.wpList_append_own_stringF _ rfl _ _ 79 9 rfl B 5 i0 Tryd.underlying79 Tryd.underlying9 hi hz0 hz1 hz2 _ _ _ rfl hown s rfl ?c3 ?c4 ?c5 ?_)
  case c3 => unfold maxLen; omega
  case c4 => omega
  case c5 => have := hb1.size; omega
  intro v' w2 hown' hgrow _
  have hlt : b < w1.heap.size := by
    rcases Nat.lt_or_ge b w1.heap.size with h' | h'
    · exact h'
    · simp [Array.getElem?_eq_none h'] at hbk
  have hb2 : w2.heap[b]? = some (.cells #[.pointer (some ⟨b, 0, none⟩), v] 81 (0, 0)) := by
    rw [hgrow.block b hlt (fun e => hne e.symm)]
    exact hbk
  have d0 : w2.cell? ⟨b, 0, none⟩ = some (.pointer (some ⟨b, 0, none⟩)) := by rw [Lib.cell_of_heap hb2]; rfl
  have d1 : w2.cell? ⟨b, 1, none⟩ = some v := by rw [Lib.cell_of_heap hb2]; rfl
  have f1 : w2.frozen? ⟨b, 1, none⟩ = false := Lib.frozen_of_heap hb2 1
  obtain ⟨ao, n', cap, rfl⟩ : ∃ ao n' cap, v' = .slice ao n' cap := by
    rcases hown'.2 with ⟨hv, _⟩ | ⟨g, cap, cur, fz, hv, _⟩
    · exact ⟨_, _, _, hv⟩
    · exact ⟨_, _, _, hv⟩
  go_wp2
  go_ret2
  refine ⟨rfl, ?_, ?_, (hk1.grown hgrow (Lib.ownsRowF_kind hown)).setCell ⟨b, 1, none⟩ rfl _⟩
  · exact Lib.BuilderAtF.put (T := 81) (e := 5) hB hb2 (bs' := bs ++ Lib.strCells s) (by simpa [Lib.strCells_length] using hown') (by decide)
  · exact (hb1.grown hgrow (by have := hb1.size; omega) (fun k hk => (hown.lt k hk).1)).setCell (p := ⟨b, 1, none⟩) hB _
end Go.Proofs.YtodldpdnhcafpaaDoor.K

-- A builder beside a row of ints: what keeps both
namespace Go.Proofs.YtodldpdnhcafpaaDoor.K
open Go.RowKit Go.Proofs.YtodldpdnhcafpaaDoorW.PrintWords Go.Proofs.YtodldpdnhcafpaaDoorW.PrintLast Go.Proofs.YtodldpdnhcafpaaDoorW.PrintMore
open Go.Proofs.YtodldpdnhcafpaaDoor.F
set_option linter.unusedVariables false
set_option linter.unusedSimpArgs false
/-- The builder's block and all rows of bytes stand. -/
def BKeep (b : Nat) (W W' : World) : Prop := ∀ k o, W.heap[k]? = some o → (k = b ∨ ∃ c fz, o = .cells c 5 fz) → W'.heap[k]? = some o
theorem BKeep.at_ {B b : Nat} {p : Value} {bs : List Value} {W W' : World} (hk : BKeep b W W') (h : Lib.BuilderAtF 81 5 B b p bs W) : Lib.BuilderAtF 81 5 B b p bs W' := by
  obtain ⟨hB, v, hb, hown, hne⟩ := h
  refine ⟨hB, v, hk b _ hb (.inl rfl), ⟨hown.1, ?_⟩, hne⟩
  rcases hown.2 with h | ⟨g, cap, cur, fz, h1, h2, h3, h4⟩
  · exact .inl h
  · exact .inr ⟨g, cap, cur, fz, h1, h2, hk g _ h3 (.inr ⟨cur, fz, rfl⟩), h4⟩
theorem BKeep.bld {B b : Nat} {bs : List Value} {W W' : World} (hk : BKeep b W W') (h : Lib.IsBuilderF 81 5 B b bs W) : Lib.IsBuilderF 81 5 B b bs W' := h.elim (fun x => .inl (hk.at_ x)) (fun x => .inr (hk.at_ x))
theorem BKeep.alloc (b : Nat) (W : World) (o : Obj) : BKeep b W (W.alloc o) := fun k x h _ => blk_alloc h o
theorem BKeep.below {b : Nat} {W W' : World} (h : Below W.heap.size W W') : BKeep b W W' := fun k x hk _ => (h.block k (blk_lt hk)).trans hk
theorem BKeep.setCell {b g : Nat} {W : World} {cs : Array Value} {T : TypeId} (hg : W.heap[g]? = some (.cells cs T (0, 0))) (hT : T ≠ 5) (hb : b ≠ g) (j : Nat) (u : Value) : BKeep b W (W.setCell ⟨g, j, none⟩ u) := fun k o h hk => by
  refine (Below.heap_setCell _ _ _ _ (fun e => ?_)).trans h
  rcases hk with rfl | ⟨c, fz, rfl⟩
  · exact hb e
  · simp only at e
    subst e
    rw [hg] at h
    simp only [Option.some.injEq, Obj.cells.injEq] at h
    exact hT h.2.1
/-- An append to a row of another type. -/
theorem BKeep.grown {b base : Nat} {e : TypeId} {d : Kd Int} {ok : Nat → Prop} {v : Value} {xs : List Int} {W W' : World} (hg : W.grownBy W' v.ownBlock) (hr : d.R e W base ok v xs) (he : e ≠ 5) (hb : ∀ g, v.ownBlock = some g → g ≠ b) : BKeep b W W' := fun k o h hk => by
  rw [hg.block k (blk_lt h) (fun e2 => ?_)]
  · exact h
  · obtain ⟨cells, hc⟩ := Kd.R_typed hr k e2.symm
    rcases hk with rfl | ⟨c, fz, rfl⟩
    · exact hb k e2.symm rfl
    · rw [hc] at h
      simp only [Option.some.injEq, Obj.cells.injEq] at h
      exact he h.2.1
/-- Behind a write to the builder: other blocks stand. -/
theorem oth_blk {b g : Nat} {W W' : World} {cs : Array Value} {T : TypeId} (ho : Lib.OthersKept 5 (some b) W W') (hg : W.heap[g]? = some (.cells cs T (0, 0))) (hT : T ≠ 5) (hb : g ≠ b) : W'.heap[g]? = some (.cells cs T (0, 0)) :=
  ho g _ hg (fun e => hb (Option.some.inj e)) (fun c fz e => by simp only [Obj.cells.injEq] at e; exact hT e.2.1)
theorem oth_row {b base : Nat} {W W' : World} {ok : Nat → Prop} {v : Value} {xs : List Int} (ho : Lib.OthersKept 5 (some b) W W') (hr : (Kd.int .i64).R 3 W base ok v xs) (hb : ∀ g, v.ownBlock = some g → g ≠ b) : (Kd.int .i64).R 3 W' base ok v xs := by
  have hown := Kd.own_of_R hr
  refine Kd.R_of_own ⟨hown.1, ?_⟩ hr.1
  rcases hown.2 with h | ⟨g, cap, cur, h1, h2, h3, h4⟩
  · exact .inl h
  · exact .inr ⟨g, cap, cur, h1, h2, oth_blk ho h3 (by decide) (hb g (by rw [h1]; rfl)), h4⟩
theorem bld_blk {B b : Nat} {bs : List Value} {W : World} (h : Lib.IsBuilderF 81 5 B b bs W) : ∃ p v, W.heap[b]? = some (.cells #[p, v] 81 (0, 0)) := by
  rcases h with ⟨_, v, hb, _⟩ | ⟨_, v, hb, _⟩
  · exact ⟨_, v, hb⟩
  · exact ⟨_, v, hb⟩
theorem ne_bld {B b g : Nat} {bs : List Value} {W : World} {cs : Array Value} {T : TypeId} (h : Lib.IsBuilderF 81 5 B b bs W) (hg : W.heap[g]? = some (.cells cs T (0, 0))) (hT : T ≠ 81) : g ≠ b := by
  rintro rfl
  obtain ⟨p, v, hb⟩ := bld_blk h
  rw [hg] at hb
  simp only [Option.some.injEq, Obj.cells.injEq] at hb
  exact hT hb.2.1
theorem row_bld {B b base : Nat} {bs : List Value} {W : World} {ok : Nat → Prop} {v : Value} {xs : List Int} (h : Lib.IsBuilderF 81 5 B b bs W) (hr : (Kd.int .i64).R 3 W base ok v xs) : ∀ g, v.ownBlock = some g → g ≠ b := fun g hg => by
  obtain ⟨cells, hc⟩ := Kd.R_typed hr g hg
  exact ne_bld h hc (by decide)
end Go.Proofs.YtodldpdnhcafpaaDoor.K

-- tree.Sketch (11): what it writes, and its walk
namespace Go.Proofs.YtodldpdnhcafpaaDoor.F
open Go.RowKit Go.Proofs.YtodldpdnhcafpaaDoorW.PrintWords Go.Proofs.YtodldpdnhcafpaaDoorW.PrintLast Go.Proofs.YtodldpdnhcafpaaDoorW.PrintMore
open Go.Proofs.YtodldpdnhcafpaaDoor.K
attribute [local go_sem] max2_int min2_int max_two min_two max_three min_three max_four min_four
set_option linter.unusedVariables false
set_option linter.unusedSimpArgs false
abbrev nmL (i : Int) : ByteArray := rdOf ByteArray.empty tabG0 i
/-- The brackets that are still open at the end. -/
def tree_Sketch.l2 : Nat → List UInt8 → List Int → Int → Option (List UInt8)
  | 0, _, _, _ => none
  | k + 1, out, o, j => if j < (o.length : Int) then (if out.length < 140737488355328 then tree_Sketch.l2 k (out ++ [41]) o (wrap64 (j + 1)) else none) else some out
mutual
def tree_Sketch.l0 : Nat → List S43 → List UInt8 → List Int → Int → Option (List UInt8)
  | 0, _, _, _, _ => none
  | k + 1, ns, out, o, i => if i < (ns.length : Int) then (if 0 ≤ i then tree_Sketch.l1 k ns out o i else none) else tree_Sketch.l2 k out o 0
def tree_Sketch.l1 : Nat → List S43 → List UInt8 → List Int → Int → Option (List UInt8)
  | 0, _, _, _, _ => none
  | k + 1, ns, out, o, i =>
    if (o.length : Int) > 0 then (if 0 ≤ wrap64 ((o.length : Int) - 1) then (if wrap64 ((o.length : Int) - 1) < (o.length : Int) then (if rd o (wrap64 ((o.length : Int) - 1)) = i then (if out.length < 140737488355328 then tree_Sketch.l1 k ns (out ++ [41]) (o.take (wrap64 ((o.length : Int) - 1)).toNat) i else none) else tree_Sketch.j2 k ns out o i) else none) else none)
    else tree_Sketch.j2 k ns out o i
def tree_Sketch.j2 : Nat → List S43 → List UInt8 → List Int → Int → Option (List UInt8)
  | 0, _, _, _, _ => none
  | k + 1, ns, out, o, i =>
    if out.length < 140737488355300 ∧ o.length < 17592186044415 ∧ 0 ≤ (rd_T43 ns i).f0 ∧ (rd_T43 ns i).f0 < 58 then
      (if 0 < i then (if 0 ≤ wrap64 (i - 1) then (if wrap64 (i - 1) < (ns.length : Int) then (if (rd_T43 ns (wrap64 (i - 1))).f3 = 1 then tree_Sketch.j3 k ns (out ++ [32]) o i else tree_Sketch.j3 k ns out o i) else none) else none) else tree_Sketch.j3 k ns out o i)
    else none
def tree_Sketch.j3 : Nat → List S43 → List UInt8 → List Int → Int → Option (List UInt8)
  | 0, _, _, _, _ => none
  | k + 1, ns, out, o, i =>
    if (rd_T43 ns i).f3 > 1 then tree_Sketch.l0 k ns (out ++ (nmL (rd_T43 ns i).f0).data.toList ++ [40]) (o ++ [wrap64 (i + (rd_T43 ns i).f3)]) (wrap64 (i + 1))
    else tree_Sketch.l0 k ns (out ++ (nmL (rd_T43 ns i).f0).data.toList) o (wrap64 (i + 1))
end
def tree_Sketch.f (k : Nat) (ns : List S43) : Option ByteArray :=
  (tree_shaped.f k ns).bind fun s => if s = true then (tree_Sketch.l0 k ns [] [] 0).bind fun l => some ⟨l.toArray⟩ else some ⟨#[]⟩
theorem tab_size_all : (tabG0.all fun s => decide (s.size ≤ 20)) = true := by decide +kernel
theorem tab_size {i : Int} (h0 : 0 ≤ i) (h1 : i < 58) : (nmL i).size ≤ 20 := by
  have hl : i.toNat < tabG0.length := by rw [tab_len]; omega
  have e : nmL i = tabG0[i.toNat] := by simp [nmL, rdOf, List.getD_eq_getElem?_getD, hl]
  rw [e]
  exact of_decide_eq_true (List.all_eq_true.1 tab_size_all _ (List.getElem_mem hl))
/-- What holds all along. -/
structure SkI (ns : List S43) (A : Option Addr) (c : Nat) (w W : World) (gt gb : Nat) (v4 : Value) (out : List UInt8) (o : List Int) : Prop where
  box : W.heap[gt]? = some (.cells #[.slice A ns.length c] 24 (0, 0))
  bld : Lib.IsBuilderF 81 5 w.heap.size gb (Lib.byteCells out) W
  opn : (Kd.int .i64).R 3 W w.heap.size (fun _ => True) v4 o
  bel : Below w.heap.size w W
theorem SkI.wrote {ns : List S43} {A : Option Addr} {c gt gb : Nat} {w W W' : World} {v4 : Value} {out out' : List UInt8} {o : List Int} {cs : List Value} (h : SkI ns A c w W gt gb v4 out o) (hb : Lib.BuilderAtF 81 5 w.heap.size gb (.pointer (some ⟨gb, 0, none⟩)) cs W')
    (hbel : Below w.heap.size W W') (ho : Lib.OthersKept 5 (some gb) W W') (hcs : cs = Lib.byteCells out') : SkI ns A c w W' gt gb v4 out' o :=
  ⟨oth_blk ho h.box (by decide) (ne_bld h.bld h.box (by decide)), by subst hcs; exact .inr hb, oth_row ho h.opn (row_bld h.bld h.opn), h.bel.trans hbel⟩
theorem SkI.below {ns : List S43} {A : Option Addr} {c gt gb : Nat} {w W W' : World} {v4 : Value} {out : List UInt8} {o : List Int} (h : SkI ns A c w W gt gb v4 out o) (hb : Below W.heap.size W W') : SkI ns A c w W' gt gb v4 out o :=
  ⟨blk_below h.box hb, (BKeep.below hb).bld h.bld, Kd.R_below h.opn hb, below_step h.bel hb⟩
theorem SkI.set {ns : List S43} {A : Option Addr} {c gt gb g : Nat} {w W : World} {v4 : Value} {out : List UInt8} {o : List Int} {cs : Array Value} (h : SkI ns A c w W gt gb v4 out o) (hg : W.heap[g]? = some (.cells cs 43 (0, 0))) (hge : w.heap.size ≤ g) (j : Nat) (u : Value) : SkI ns A c w (W.setCell ⟨g, j, none⟩ u) gt gb v4 out o :=
  ⟨blk_far (p := ⟨g, j, none⟩) h.box (fun e => by have e2 : gt = g := e; subst e2; have := h.box; rw [hg] at this; simp at this) u, (BKeep.setCell hg (by decide) (fun e => ne_bld h.bld hg (by decide) e.symm) j u).bld h.bld,
    Kd.R_mono (Kd.R_far (p := ⟨g, j, none⟩) (Kd.R_types h.opn hg (by decide)) (fun _ hk => hk.2) u) (fun _ _ => trivial), below_set h.bel hge⟩
/-- A node laid into the round's variable. -/
theorem SkI.set4 {ns : List S43} {A : Option Addr} {c gt gb g : Nat} {w W : World} {v4 : Value} {out : List UInt8} {o : List Int} {a b d e : Value} (h : SkI ns A c w W gt gb v4 out o) (hg : W.heap[g]? = some (.cells #[a, b, d, e] 43 (0, 0))) (hge : w.heap.size ≤ g) (u0 u1 u2 u3 : Value) :
    SkI ns A c w ((((W.setCell ⟨g, 0, none⟩ u0).setCell ⟨g, 1, none⟩ u1).setCell ⟨g, 2, none⟩ u2).setCell ⟨g, 3, none⟩ u3) gt gb v4 out o ∧ ((((W.setCell ⟨g, 0, none⟩ u0).setCell ⟨g, 1, none⟩ u1).setCell ⟨g, 2, none⟩ u2).setCell ⟨g, 3, none⟩ u3).heap[g]? = some (.cells #[u0, u1, u2, u3] 43 (0, 0)) := by
  have h0 := blk_put (cs' := #[u0, b, d, e]) hg 0 u0 rfl
  have h1 := blk_put (cs' := #[u0, u1, d, e]) h0 1 u1 rfl
  have h2 := blk_put (cs' := #[u0, u1, u2, e]) h1 2 u2 rfl
  have h3 := blk_put (cs' := #[u0, u1, u2, u3]) h2 3 u3 rfl
  exact ⟨(((h.set hg hge 0 u0).set h0 hge 1 u1).set h1 hge 2 u2).set h2 hge 3 u3, h3⟩
theorem cells_snoc (out : List UInt8) (x : UInt8) : Lib.byteCells out ++ [.int .u8 (x.toNat : Int)] = Lib.byteCells (out ++ [x]) := by simp [Lib.byteCells]
theorem cells_str (out : List UInt8) (s : ByteArray) : Lib.byteCells out ++ Lib.strCells s = Lib.byteCells (out ++ s.data.toList) := by simp [Lib.byteCells, Lib.strCells]
set_option maxHeartbeats 8000000 in
set_option maxRecDepth 100000 in
theorem tree_Sketch.calls (k : Nat) (A : Option Addr) (c : Nat) (ns : List S43) (r : ByteArray) (w : World) (hr : Kd.C k43 w A ns.length ns) (hc : ns.length ≤ c) (h : tree_Sketch.f k ns = some r) (hs_ : SG w) :
    Calls Tryd.prog 11 #[.agg #[.slice A ns.length c]] w fun e w' => e = .returned (.string r) ∧ Below w.heap.size w w' := by
  have hu24 := Tryd.underlying24
  have hu43 := Tryd.underlying43
  have hu81 := Tryd.underlying81
  obtain ⟨s, hs, H⟩ := Option.bind_eq_some_iff.1 h
  have E39 : ∀ args w, (callFunc 39 args).run Tryd.prog w = .ok (.enter 39 args) w := enters_of Tryd.func39 (by kernel_rfl) rfl
  have E40 : ∀ args w, (callFunc 40 args).run Tryd.prog w = .ok (.enter 40 args) w := enters_of Tryd.func40 (by kernel_rfl) rfl
  have E41 : ∀ args w, (callFunc 41 args).run Tryd.prog w = .ok (.enter 41 args) w := enters_of Tryd.func41 (by kernel_rfl) rfl
  have E38 : ∀ args w, (callFunc 38 args).run Tryd.prog w = .ok (.enter 38 args) w := enters_of Tryd.func38 (by kernel_rfl) rfl
  have HR := Aside0.mk hr
  have HC := Aside0.mk hc
  have HSG := Aside0.mk hs_
  have HB := Aside0.mk (Below.refl w.heap.size w)
  have HS := Aside0.mk hs
  have H' := Aside0.mk H
  clear h hr hc hs_ hs H
  go_enter Tryd.func11, Tryd.ntmps11
  go_wp2_with (first
    | ((with_reducible refine gate_dst (N := 1) rfl ?_); refine box_event ?hg (N := 1) ?hd (cs := #[.slice A ns.length c]) (t := 24) ?hr ?_; (case hd => rfl); (case hg => rfl); (case hr => first | (go_simp; done) | (go_simp; rfl)); intro gt hge w1 hbox hb; have n0_ := Aside0.mk (below_step HB.out hb); have BT := Aside0.mk hbox; clear HB; have HB := n0_; clear n0_; clear hbox hge hb; have hx0 : w1.cell? ⟨gt, 0, none⟩ = some (.slice A ns.length c) := (blk_cell BT.out 0).trans rfl)
    | fail)
  refine (tree_shaped.calls k A c ns s _ (Kd.C_below HR.out HB.out) HC.out HS.out).mono ?_
  rintro e w2 ⟨rfl, hb⟩
  have n0_ := Aside0.mk (below_step HB.out hb)
  have n1_ := Aside0.mk (blk_below BT.out hb)
  clear HB BT hx0 hb
  have HB := n0_
  have BT := n1_
  clear n0_ n1_
  have hx0 : w2.cell? ⟨gt, 0, none⟩ = some (.slice A ns.length c) := (blk_cell BT.out 0).trans rfl
  cases s with
  | false =>
    have H := H'.out
    simp only [Bool.false_eq_true, if_false, Option.some.injEq] at H
    subst H
    go_wp2
    go_ret
    exact ⟨rfl, HB.out⟩
  | true =>
    have H := H'.out
    rw [if_pos rfl] at H
    obtain ⟨l, hl, hr2⟩ := Option.bind_eq_some_iff.1 H
    obtain rfl := (Option.some.inj hr2).symm
    have HL := Aside0.mk hl
    clear H H' hr2 hl
    go_wp2_with (first
      | ((with_reducible refine gate_dst (N := 3) rfl ?_); refine box_event ?hg (N := 3) ?hd (cs := #[.pointer none, .slice none 0 0]) (t := 81) ?hr ?_; (case hd => rfl); (case hg => rfl); (case hr => first | (go_simp; done) | (go_simp; rfl)); intro gb hge w3 hbox hb; have HI := Aside0.mk (show SkI ns A c w w3 gt gb (.slice none 0 0) [] [] from ⟨blk_below BT.out hb, .inl ⟨by rw [hge]; exact HB.out.size, _, hbox, World.ownsRowF_nil _ _ _ _, by simp [Value.ownBlock]⟩, Kd.R_nil _ _ _ _ _, below_step HB.out hb⟩); clear HB BT hx0; have hx0 : w3.cell? ⟨gt, 0, none⟩ = some (.slice A ns.length c) := (blk_cell HI.out.box 0).trans rfl; clear hbox hge hb)
      | fail)
    clear E38 HS
    go_loopg [4, 13] k (fun kq v4 v13 w' => ∃ (out : List UInt8) (o : List Int) (i : Int), v13 = .int .i64 i ∧ Aside0 (tree_Sketch.l0 kq ns out o i = some l) ∧ Aside0 (kq ≤ k) ∧ Aside0 (SkI ns A c w w' gt gb v4 out o))
    case atStart => exact ⟨[], [], 0, rfl, HL, ⟨Nat.le_refl _⟩, HI⟩
    case round =>
      clear HL HI hx0
      obtain ⟨out, o, i, rfl, HA, HK1, HI⟩ := hrel
      obtain ⟨Ao, co, eo⟩ := Kd.R_slice HI.out.opn
      subst eo
      cases gk with
      | zero => exact absurd HA.out (by simp [tree_Sketch.l0])
      | succ k1 =>
        have H := HA.out
        clear HA
        simp only [tree_Sketch.l0] at H
        by_cases c2 : i < (ns.length : Int)
        · rw [if_pos c2] at H
          have c2b0 : decide (i < (ns.length : Int)) = true := decide_eq_true c2
          by_cases c3 : 0 ≤ i
          · rw [if_pos c3] at H
            have H' := Aside0.mk H
            clear H
            obtain ⟨ad, ea, x0, x1, x2, x3⟩ := at_T43 (Kd.C_below HR.out HI.out.bel) i c3 c2
            cases ea
            have p1 := eq_true c3
            have q1 := eq_true c2
            clear c2 c3
            go_upto_block 2 with (first
              | ((with_reducible refine gate_dst (N := 6) rfl ?_); refine box_event ?hg (N := 6) ?hd (cs := #[.int .u8 0, .int .i64 0, .int .i64 0, .int .i64 0]) (t := 43) ?hr ?_; (case hd => rfl); (case hg => rfl); (case hr => first | (go_simp; done) | (go_simp; rfl)); intro g6 hge w6 hbox hb; have GE6 := Aside0.mk (show w.heap.size ≤ g6 by rw [hge]; exact HI.out.bel.size); have n0_ := Aside0.mk (HI.out.below hb); have BX := Aside0.mk hbox; clear HI; have HI := n0_; clear n0_ x0 x1 x2 x3; have hf0 := blk_frozen BX.out 0; have hf1 := blk_frozen BX.out 1; have hf2 := blk_frozen BX.out 2; have hf3 := blk_frozen BX.out 3; have hz0 : w6.cell? ⟨g6, 0, none⟩ = some (.int .u8 0) := (blk_cell BX.out 0).trans rfl; have hz1 : w6.cell? ⟨g6, 1, none⟩ = some (.int .i64 0) := (blk_cell BX.out 1).trans rfl; have hz2 : w6.cell? ⟨g6, 2, none⟩ = some (.int .i64 0) := (blk_cell BX.out 2).trans rfl; have hz3 : w6.cell? ⟨g6, 3, none⟩ = some (.int .i64 0) := (blk_cell BX.out 3).trans rfl; clear hbox hge hb)
              | fail)
            (try simp only [Act.put, List.setIfInBounds_toArray, List.set_cons_zero, List.set_cons_succ])
            clear hf0 hf1 hf2 hf3 hz0 hz1 hz2 hz3
            obtain ⟨hI, hX⟩ := HI.out.set4 BX.out GE6.out (.int .u8 (rd_T43 ns i).f0) (.int .i64 (rd_T43 ns i).f1) (.int .i64 (rd_T43 ns i).f2) (.int .i64 (rd_T43 ns i).f3)
            clear HI BX
            have HI := Aside0.mk hI
            have BX := Aside0.mk hX
            clear hI hX
            generalize ((((w6.setCell ⟨g6, 0, none⟩ (.int .u8 (rd_T43 ns i).f0)).setCell ⟨g6, 1, none⟩ (.int .i64 (rd_T43 ns i).f1)).setCell ⟨g6, 2, none⟩ (.int .i64 (rd_T43 ns i).f2)).setCell ⟨g6, 3, none⟩ (.int .i64 (rd_T43 ns i).f3)) = w7 at HI BX ⊢
            go_cut [4] (fun v4 wc => ∃ (kq : Nat) (out : List UInt8) (o : List Int), Aside0 (tree_Sketch.j2 kq ns out o i = some l) ∧ Aside0 (kq ≤ k1) ∧ Aside0 (SkI ns (some ad) c w wc gt gb v4 out o) ∧ Aside0 (wc.heap[g6]? = some (.cells #[.int .u8 (rd_T43 ns i).f0, .int .i64 (rd_T43 ns i).f1, .int .i64 (rd_T43 ns i).f2, .int .i64 (rd_T43 ns i).f3] 43 (0, 0))))
            case first =>
              go_wp2
              go_loopg [4] k1 (fun kq v4 w' => ∃ (out : List UInt8) (o : List Int), Aside0 (tree_Sketch.l1 kq ns out o i = some l) ∧ Aside0 (kq ≤ k1) ∧ Aside0 (SkI ns (some ad) c w w' gt gb v4 out o) ∧ Aside0 (w'.heap[g6]? = some (.cells #[.int .u8 (rd_T43 ns i).f0, .int .i64 (rd_T43 ns i).f1, .int .i64 (rd_T43 ns i).f2, .int .i64 (rd_T43 ns i).f3] 43 (0, 0))))
              case atStart => exact ⟨out, o, H', ⟨Nat.le_refl _⟩, HI, BX⟩
              case round =>
                clear H' HI BX
                obtain ⟨out2, o2, HA, HK2, HI, BX⟩ := hrel
                obtain ⟨Ap, cp, ep⟩ := Kd.R_slice HI.out.opn
                subst ep
                cases gk with
                | zero => exact absurd HA.out (by simp [tree_Sketch.l1])
                | succ k2 =>
                  have H := HA.out
                  clear HA
                  simp only [tree_Sketch.l1] at H
                  have hl2 := (Kd.R_reads' HI.out.opn).2.1
                  by_cases c17 : (o2.length : Int) > 0
                  · rw [if_pos c17] at H
                    have c17b0 : decide (0 < (o2.length : Int)) = true := decide_eq_true c17
                    have c17b1 : decide (0 < o2.length) = true := decide_eq_true (by omega)
                    clear c17
                    obtain ⟨ji, hji⟩ : ∃ j_ : Int, (wrap64 ((o2.length : Int) - 1)) = j_ := ⟨_, rfl⟩
                    rw [hji] at H
                    have hjiw : (IntKind.i64.wrap ((o2.length : Int) - 1)) = ji := (i64_w _).trans hji
                    by_cases c19 : 0 ≤ ji
                    · rw [if_pos c19] at H
                      have c19b0 : decide (0 ≤ ji) = true := decide_eq_true c19
                      by_cases c20 : ji < (o2.length : Int)
                      · rw [if_pos c20] at H
                        have c20b0 : decide (ji < (o2.length : Int)) = true := decide_eq_true c20
                        obtain ⟨ad2, e2, hx2⟩ := Kd.at_int (Kd.R_reads' HI.out.opn).2.2 ji c19 c20
                        cases e2
                        have p2 := eq_true c19
                        have q2 := eq_true c20
                        have q3 : (ji ≤ (o2.length : Int)) = True := eq_true (by omega)
                        by_cases c21 : rd o2 ji = i
                        · rw [if_pos c21] at H
                          have c21b0 : (rd o2 ji == i) = true := beq_iff_eq.mpr c21
                          by_cases c22 : out2.length < 140737488355328
                          · rw [if_pos c22] at H
                            have H' := Aside0.mk H
                            clear H
                            obtain ⟨i0, hi0, _, hsz, _⟩ := info_parts info3
                            have hcut := cut_to (P := Tryd.prog) 55 3 .i64 Tryd.underlying55 hi0 (some ad2) o2.length cp ji c19 (by omega) hl2
                            have hr24 := Kd.R_take (m := (ji : Int).toNat) HI.out.opn (by omega)
                            have hy : (o2.take (ji : Int).toNat).length = (ji : Int).toNat := by rw [List.length_take]; omega
                            have HR4 := Aside0.mk hr24
                            clear hr24 hy hi0 hsz hl2 c19 c20 c21
                            go_wp2_with (fail)
                            refine (WriteByte_k w.heap.size gb (Lib.byteCells out2) 41 _ HI.out.bld (by rw [Lib.byteCells_length]; omega) HI.out.bel.size).mono ?_
                            rintro e w8 ⟨rfl, hb8, hbel8, ho8⟩
                            have hI := HI.out.wrote hb8 hbel8 ho8 (cells_snoc out2 41)
                            have n0_ := Aside0.mk (show SkI ns (some ad) c w w8 gt gb (.slice (some ad2) ji.toNat cp) (out2 ++ [41]) (o2.take ji.toNat) from ⟨hI.box, hI.bld, oth_row ho8 HR4.out (row_bld HI.out.bld HR4.out), hI.bel⟩)
                            have n1_ := Aside0.mk (oth_blk ho8 BX.out (by decide) (ne_bld HI.out.bld BX.out (by decide)))
                            clear HI BX HR4 hI hb8 hbel8 ho8 hx2
                            have HI := n0_
                            have BX := n1_
                            clear n0_ n1_
                            go_wp2
                            go_roundg k2
                            case measure => have := HK2.out; omega
                            case rel => exact ⟨out2 ++ [41], o2.take ji.toNat, H', ⟨by have := HK2.out; omega⟩, HI, BX⟩
                          · rw [if_neg c22] at H
                            cases H
                        · rw [if_neg c21] at H
                          have c21b0 : (rd o2 ji == i) = false := beq_eq_false_iff_ne.mpr c21
                          have H' := Aside0.mk H
                          clear H c19 c20 c21
                          go_wp2
                          go_meet
                          case rel => exact ⟨_, out2, o2, H', ⟨by have := HK2.out; omega⟩, HI, BX⟩
                      · rw [if_neg c20] at H
                        cases H
                    · rw [if_neg c19] at H
                      cases H
                  · rw [if_neg c17] at H
                    have c17b0 : decide (0 < (o2.length : Int)) = false := decide_eq_false c17
                    have c17b1 : decide (0 < o2.length) = false := decide_eq_false (by omega)
                    have H' := Aside0.mk H
                    clear H c17
                    go_wp2
                    go_meet
                    case rel => exact ⟨_, out2, o2, H', ⟨by have := HK2.out; omega⟩, HI, BX⟩
            case rest =>
              clear H' HI BX
              obtain ⟨kq, out3, o3, HA, HK3, HI, BX⟩ := hcut
              obtain ⟨Aq, cq, eq_⟩ := Kd.R_slice HI.out.opn
              subst eq_
              cases kq with
              | zero => exact absurd HA.out (by simp [tree_Sketch.j2])
              | succ k3 =>
                have H := HA.out
                clear HA
                simp only [tree_Sketch.j2] at H
                by_cases c4 : out3.length < 140737488355300 ∧ o3.length < 17592186044415 ∧ 0 ≤ (rd_T43 ns i).f0 ∧ (rd_T43 ns i).f0 < 58
                · rw [if_pos c4] at H
                  have c4a := c4.1
                  have c4b := c4.2.1
                  have c4c := c4.2.2.1
                  have c4d := c4.2.2.2
                  clear c4
                  have hx0 : wc.cell? ⟨gt, 0, none⟩ = some (.slice (some ad) ns.length c) := (blk_cell HI.out.box 0).trans rfl
                  by_cases c5 : 0 < i
                  · rw [if_pos c5] at H
                    have c5b : decide (0 < i) = true := decide_eq_true c5
                    obtain ⟨ji, hji⟩ : ∃ j_ : Int, (wrap64 (i - 1)) = j_ := ⟨_, rfl⟩
                    rw [hji] at H
                    have hjiw : (IntKind.i64.wrap (i - 1)) = ji := (i64_w _).trans hji
                    by_cases c6 : 0 ≤ ji
                    · rw [if_pos c6] at H
                      by_cases c7 : ji < (ns.length : Int)
                      · rw [if_pos c7] at H
                        obtain ⟨ad3, e3, y0, y1, y2, y3⟩ := at_T43 (Kd.C_below HR.out HI.out.bel) ji c6 c7
                        obtain rfl : ad = ad3 := (by injection e3)
                        have p3 := eq_true c6
                        have q3 := eq_true c7
                        clear c5 c6 c7 y0 y1 y2
                        by_cases c8 : (rd_T43 ns ji).f3 = 1
                        · rw [if_pos c8] at H
                          have c8b : ((rd_T43 ns ji).f3 == 1) = true := beq_iff_eq.mpr c8
                          clear c8
                          go_wp2_with (fail)
                          refine (WriteByte_k w.heap.size gb (Lib.byteCells out3) 32 _ HI.out.bld (by rw [Lib.byteCells_length]; omega) HI.out.bel.size).mono ?_
                          rintro e w9 ⟨rfl, hb9, hbel9, ho9⟩
                          have n0_ := Aside0.mk (HI.out.wrote hb9 hbel9 ho9 (cells_snoc out3 32))
                          have n1_ := Aside0.mk (oth_blk ho9 BX.out (by decide) (ne_bld HI.out.bld BX.out (by decide)))
                          clear HI BX hb9 hbel9 ho9 y3 hx0
                          have HI := n0_
                          have BX := n1_
                          clear n0_ n1_
                          cases k3 with
                          | zero => exact absurd H (by simp [tree_Sketch.j3])
                          | succ k4 =>
                            simp only [tree_Sketch.j3] at H
                            have z0 : w9.cell? ⟨g6, 0, none⟩ = some (.int .u8 (rd_T43 ns i).f0) := (blk_cell BX.out 0).trans rfl
                            obtain ⟨at_, ea_, hxt⟩ := Kd.at_string (Kd.C_below HSG.out.g0 HI.out.bel) (rd_T43 ns i).f0 c4c c4d
                            obtain rfl : (⟨0, 0, none⟩ : Addr) = at_ := (by injection ea_)
                            (first | simp only [add_plain] at hxt | simp only [add_at] at hxt | simp only [Addr.add, Nat.zero_add] at hxt | skip)
                            have pt := eq_true c4c
                            have qt := eq_true c4d
                            have hsz := (tab_size c4c c4d)
                            have HZ := Aside0.mk hsz
                            clear hsz
                            go_wp2_with (fail)
                            refine (WriteString_k w.heap.size gb (Lib.byteCells (out3 ++ [32])) (nmL (rd_T43 ns i).f0) _ HI.out.bld (by rw [Lib.byteCells_length]; have := HZ.out; rw [List.length_append, List.length_singleton]; omega) HI.out.bel.size).mono ?_
                            rintro e w10 ⟨rfl, hb10, hbel10, ho10⟩
                            have n0_ := Aside0.mk (HI.out.wrote hb10 hbel10 ho10 (cells_str (out3 ++ [32]) (nmL (rd_T43 ns i).f0)))
                            have n1_ := Aside0.mk (oth_blk ho10 BX.out (by decide) (ne_bld HI.out.bld BX.out (by decide)))
                            clear HI BX hb10 hbel10 ho10 hxt z0
                            have HI := n0_
                            have BX := n1_
                            clear n0_ n1_
                            have z3 : w10.cell? ⟨g6, 3, none⟩ = some (.int .i64 (rd_T43 ns i).f3) := (blk_cell BX.out 3).trans rfl
                            by_cases c9 : (rd_T43 ns i).f3 > 1
                            · rw [if_pos c9] at H
                              have c9b : decide (1 < (rd_T43 ns i).f3) = true := decide_eq_true c9
                              have H' := Aside0.mk H
                              clear H c9
                              go_wp2_with (fail)
                              refine (WriteByte_k w.heap.size gb (Lib.byteCells ((out3 ++ [32]) ++ (nmL (rd_T43 ns i).f0).data.toList)) 40 _ HI.out.bld (by rw [Lib.byteCells_length]; simp only [List.length_append, List.length_singleton, Array.length_toList]; have := HZ.out; (have e_ : (nmL (rd_T43 ns i).f0).data.size = (nmL (rd_T43 ns i).f0).size := rfl); omega) HI.out.bel.size).mono ?_
                              rintro e w11 ⟨rfl, hb11, hbel11, ho11⟩
                              have n0_ := Aside0.mk (HI.out.wrote hb11 hbel11 ho11 (cells_snoc ((out3 ++ [32]) ++ (nmL (rd_T43 ns i).f0).data.toList) 40))
                              have n1_ := Aside0.mk (oth_blk ho11 BX.out (by decide) (ne_bld HI.out.bld BX.out (by decide)))
                              clear HI BX hb11 hbel11 ho11 z3
                              have HI := n0_
                              have BX := n1_
                              clear n0_ n1_
                              have z3 : w11.cell? ⟨g6, 3, none⟩ = some (.int .i64 (rd_T43 ns i).f3) := (blk_cell BX.out 3).trans rfl
                              go_wp2_with (first
                                | ((with_reducible refine gate_builtin (b := .append) (xs := #[.tmp 59, .tmp 64]) rfl ?_); at_builtin; refine Kd.R_append (Kd.int .i64) (w0 := w) w.heap.size rfl (.tmp 59) (.tmp 64) 55 3 (.int .i64 0) 8 rfl Tryd.underlying55 info3 rfl (by decide) (by omega) (.slice Aq o3.length cq) o3 (wrap64 (i + (rd_T43 ns i).f3)) [.int .i64 (wrap64 (i + (rd_T43 ns i).f3))] (fun _ => True) (fun _ => False) rfl (by first | (go_simp; done) | (go_simp; rfl)) ?aP (fun _ hk => hk.elim) ?aF ?aO ?aB ?aS ?aL ?_; (case aP => exact rfl); (case aF => exact fun _ _ => trivial); (case aO => exact HI.out.opn); (case aB => exact HI.out.bel); (case aS => exact HI.out.bel.size); (case aL => have := c4b; omega); intro v12 w12 ho12 hb12 hg12 hat12; have n0_ := Aside0.mk (show SkI ns (some ad) c w w12 gt gb v12 ((out3 ++ [32]) ++ (nmL (rd_T43 ns i).f0).data.toList ++ [40]) (o3 ++ [wrap64 (i + (rd_T43 ns i).f3)]) from ⟨blk_grown HI.out.box hg12 (Kd.R_ne HI.out.opn HI.out.box (by decide)), (BKeep.grown hg12 HI.out.opn (by decide) (row_bld HI.out.bld HI.out.opn)).bld HI.out.bld, ho12, hb12⟩); clear HI BX z3 ho12 hb12 hg12 hat12; have HI := n0_; clear n0_)
                                | fail)
                              go_roundg k4
                              case measure => have := HK1.out; have := HK3.out; omega
                              case rel => exact ⟨(out3 ++ [32]) ++ (nmL (rd_T43 ns i).f0).data.toList ++ [40], o3 ++ [wrap64 (i + (rd_T43 ns i).f3)], wrap64 (i + 1), by first | rfl | (simp; done) | (simp [*]; done), H', ⟨by have := HK1.out; have := HK3.out; omega⟩, HI⟩
                            · rw [if_neg c9] at H
                              have c9b : decide (1 < (rd_T43 ns i).f3) = false := decide_eq_false c9
                              have H' := Aside0.mk H
                              clear H c9
                              go_wp2
                              go_roundg k4
                              case measure => have := HK1.out; have := HK3.out; omega
                              case rel => exact ⟨(out3 ++ [32]) ++ (nmL (rd_T43 ns i).f0).data.toList, o3, wrap64 (i + 1), by first | rfl | (simp; done) | (simp [*]; done), H', ⟨by have := HK1.out; have := HK3.out; omega⟩, HI⟩
                        · rw [if_neg c8] at H
                          have c8b : ((rd_T43 ns ji).f3 == 1) = false := beq_eq_false_iff_ne.mpr c8
                          clear c8
                          obtain ⟨w9, hw9⟩ : ∃ w_, w_ = wc := ⟨_, rfl⟩
                          subst hw9
                          cases k3 with
                          | zero => exact absurd H (by simp [tree_Sketch.j3])
                          | succ k4 =>
                            simp only [tree_Sketch.j3] at H
                            have z0 : w9.cell? ⟨g6, 0, none⟩ = some (.int .u8 (rd_T43 ns i).f0) := (blk_cell BX.out 0).trans rfl
                            obtain ⟨at_, ea_, hxt⟩ := Kd.at_string (Kd.C_below HSG.out.g0 HI.out.bel) (rd_T43 ns i).f0 c4c c4d
                            obtain rfl : (⟨0, 0, none⟩ : Addr) = at_ := (by injection ea_)
                            (first | simp only [add_plain] at hxt | simp only [add_at] at hxt | simp only [Addr.add, Nat.zero_add] at hxt | skip)
                            have pt := eq_true c4c
                            have qt := eq_true c4d
                            have hsz := (tab_size c4c c4d)
                            have HZ := Aside0.mk hsz
                            clear hsz
                            go_wp2_with (fail)
                            refine (WriteString_k w.heap.size gb (Lib.byteCells out3) (nmL (rd_T43 ns i).f0) _ HI.out.bld (by rw [Lib.byteCells_length]; have := HZ.out; omega) HI.out.bel.size).mono ?_
                            rintro e w10 ⟨rfl, hb10, hbel10, ho10⟩
                            have n0_ := Aside0.mk (HI.out.wrote hb10 hbel10 ho10 (cells_str out3 (nmL (rd_T43 ns i).f0)))
                            have n1_ := Aside0.mk (oth_blk ho10 BX.out (by decide) (ne_bld HI.out.bld BX.out (by decide)))
                            clear HI BX hb10 hbel10 ho10 hxt z0
                            have HI := n0_
                            have BX := n1_
                            clear n0_ n1_
                            have z3 : w10.cell? ⟨g6, 3, none⟩ = some (.int .i64 (rd_T43 ns i).f3) := (blk_cell BX.out 3).trans rfl
                            by_cases c9 : (rd_T43 ns i).f3 > 1
                            · rw [if_pos c9] at H
                              have c9b : decide (1 < (rd_T43 ns i).f3) = true := decide_eq_true c9
                              have H' := Aside0.mk H
                              clear H c9
                              go_wp2_with (fail)
                              refine (WriteByte_k w.heap.size gb (Lib.byteCells (out3 ++ (nmL (rd_T43 ns i).f0).data.toList)) 40 _ HI.out.bld (by rw [Lib.byteCells_length]; simp only [List.length_append, List.length_singleton, Array.length_toList]; have := HZ.out; (have e_ : (nmL (rd_T43 ns i).f0).data.size = (nmL (rd_T43 ns i).f0).size := rfl); omega) HI.out.bel.size).mono ?_
                              rintro e w11 ⟨rfl, hb11, hbel11, ho11⟩
                              have n0_ := Aside0.mk (HI.out.wrote hb11 hbel11 ho11 (cells_snoc (out3 ++ (nmL (rd_T43 ns i).f0).data.toList) 40))
                              have n1_ := Aside0.mk (oth_blk ho11 BX.out (by decide) (ne_bld HI.out.bld BX.out (by decide)))
                              clear HI BX hb11 hbel11 ho11 z3
                              have HI := n0_
                              have BX := n1_
                              clear n0_ n1_
                              have z3 : w11.cell? ⟨g6, 3, none⟩ = some (.int .i64 (rd_T43 ns i).f3) := (blk_cell BX.out 3).trans rfl
                              go_wp2_with (first
                                | ((with_reducible refine gate_builtin (b := .append) (xs := #[.tmp 59, .tmp 64]) rfl ?_); at_builtin; refine Kd.R_append (Kd.int .i64) (w0 := w) w.heap.size rfl (.tmp 59) (.tmp 64) 55 3 (.int .i64 0) 8 rfl Tryd.underlying55 info3 rfl (by decide) (by omega) (.slice Aq o3.length cq) o3 (wrap64 (i + (rd_T43 ns i).f3)) [.int .i64 (wrap64 (i + (rd_T43 ns i).f3))] (fun _ => True) (fun _ => False) rfl (by first | (go_simp; done) | (go_simp; rfl)) ?aP (fun _ hk => hk.elim) ?aF ?aO ?aB ?aS ?aL ?_; (case aP => exact rfl); (case aF => exact fun _ _ => trivial); (case aO => exact HI.out.opn); (case aB => exact HI.out.bel); (case aS => exact HI.out.bel.size); (case aL => have := c4b; omega); intro v12 w12 ho12 hb12 hg12 hat12; have n0_ := Aside0.mk (show SkI ns (some ad) c w w12 gt gb v12 (out3 ++ (nmL (rd_T43 ns i).f0).data.toList ++ [40]) (o3 ++ [wrap64 (i + (rd_T43 ns i).f3)]) from ⟨blk_grown HI.out.box hg12 (Kd.R_ne HI.out.opn HI.out.box (by decide)), (BKeep.grown hg12 HI.out.opn (by decide) (row_bld HI.out.bld HI.out.opn)).bld HI.out.bld, ho12, hb12⟩); clear HI BX z3 ho12 hb12 hg12 hat12; have HI := n0_; clear n0_)
                                | fail)
                              go_roundg k4
                              case measure => have := HK1.out; have := HK3.out; omega
                              case rel => exact ⟨out3 ++ (nmL (rd_T43 ns i).f0).data.toList ++ [40], o3 ++ [wrap64 (i + (rd_T43 ns i).f3)], wrap64 (i + 1), by first | rfl | (simp; done) | (simp [*]; done), H', ⟨by have := HK1.out; have := HK3.out; omega⟩, HI⟩
                            · rw [if_neg c9] at H
                              have c9b : decide (1 < (rd_T43 ns i).f3) = false := decide_eq_false c9
                              have H' := Aside0.mk H
                              clear H c9
                              go_wp2
                              go_roundg k4
                              case measure => have := HK1.out; have := HK3.out; omega
                              case rel => exact ⟨out3 ++ (nmL (rd_T43 ns i).f0).data.toList, o3, wrap64 (i + 1), by first | rfl | (simp; done) | (simp [*]; done), H', ⟨by have := HK1.out; have := HK3.out; omega⟩, HI⟩
                      · rw [if_neg c7] at H
                        cases H
                    · rw [if_neg c6] at H
                      cases H
                  · rw [if_neg c5] at H
                    have c5b : decide (0 < i) = false := decide_eq_false c5
                    clear c5
                    obtain ⟨w9, hw9⟩ : ∃ w_, w_ = wc := ⟨_, rfl⟩
                    subst hw9
                    cases k3 with
                    | zero => exact absurd H (by simp [tree_Sketch.j3])
                    | succ k4 =>
                      simp only [tree_Sketch.j3] at H
                      have z0 : w9.cell? ⟨g6, 0, none⟩ = some (.int .u8 (rd_T43 ns i).f0) := (blk_cell BX.out 0).trans rfl
                      obtain ⟨at_, ea_, hxt⟩ := Kd.at_string (Kd.C_below HSG.out.g0 HI.out.bel) (rd_T43 ns i).f0 c4c c4d
                      obtain rfl : (⟨0, 0, none⟩ : Addr) = at_ := (by injection ea_)
                      (first | simp only [add_plain] at hxt | simp only [add_at] at hxt | simp only [Addr.add, Nat.zero_add] at hxt | skip)
                      have pt := eq_true c4c
                      have qt := eq_true c4d
                      have hsz := (tab_size c4c c4d)
                      have HZ := Aside0.mk hsz
                      clear hsz
                      go_wp2_with (fail)
                      refine (WriteString_k w.heap.size gb (Lib.byteCells out3) (nmL (rd_T43 ns i).f0) _ HI.out.bld (by rw [Lib.byteCells_length]; have := HZ.out; omega) HI.out.bel.size).mono ?_
                      rintro e w10 ⟨rfl, hb10, hbel10, ho10⟩
                      have n0_ := Aside0.mk (HI.out.wrote hb10 hbel10 ho10 (cells_str out3 (nmL (rd_T43 ns i).f0)))
                      have n1_ := Aside0.mk (oth_blk ho10 BX.out (by decide) (ne_bld HI.out.bld BX.out (by decide)))
                      clear HI BX hb10 hbel10 ho10 hxt z0
                      have HI := n0_
                      have BX := n1_
                      clear n0_ n1_
                      have z3 : w10.cell? ⟨g6, 3, none⟩ = some (.int .i64 (rd_T43 ns i).f3) := (blk_cell BX.out 3).trans rfl
                      by_cases c9 : (rd_T43 ns i).f3 > 1
                      · rw [if_pos c9] at H
                        have c9b : decide (1 < (rd_T43 ns i).f3) = true := decide_eq_true c9
                        have H' := Aside0.mk H
                        clear H c9
                        go_wp2_with (fail)
                        refine (WriteByte_k w.heap.size gb (Lib.byteCells (out3 ++ (nmL (rd_T43 ns i).f0).data.toList)) 40 _ HI.out.bld (by rw [Lib.byteCells_length]; simp only [List.length_append, List.length_singleton, Array.length_toList]; have := HZ.out; (have e_ : (nmL (rd_T43 ns i).f0).data.size = (nmL (rd_T43 ns i).f0).size := rfl); omega) HI.out.bel.size).mono ?_
                        rintro e w11 ⟨rfl, hb11, hbel11, ho11⟩
                        have n0_ := Aside0.mk (HI.out.wrote hb11 hbel11 ho11 (cells_snoc (out3 ++ (nmL (rd_T43 ns i).f0).data.toList) 40))
                        have n1_ := Aside0.mk (oth_blk ho11 BX.out (by decide) (ne_bld HI.out.bld BX.out (by decide)))
                        clear HI BX hb11 hbel11 ho11 z3
                        have HI := n0_
                        have BX := n1_
                        clear n0_ n1_
                        have z3 : w11.cell? ⟨g6, 3, none⟩ = some (.int .i64 (rd_T43 ns i).f3) := (blk_cell BX.out 3).trans rfl
                        go_wp2_with (first
                          | ((with_reducible refine gate_builtin (b := .append) (xs := #[.tmp 59, .tmp 64]) rfl ?_); at_builtin; refine Kd.R_append (Kd.int .i64) (w0 := w) w.heap.size rfl (.tmp 59) (.tmp 64) 55 3 (.int .i64 0) 8 rfl Tryd.underlying55 info3 rfl (by decide) (by omega) (.slice Aq o3.length cq) o3 (wrap64 (i + (rd_T43 ns i).f3)) [.int .i64 (wrap64 (i + (rd_T43 ns i).f3))] (fun _ => True) (fun _ => False) rfl (by first | (go_simp; done) | (go_simp; rfl)) ?aP (fun _ hk => hk.elim) ?aF ?aO ?aB ?aS ?aL ?_; (case aP => exact rfl); (case aF => exact fun _ _ => trivial); (case aO => exact HI.out.opn); (case aB => exact HI.out.bel); (case aS => exact HI.out.bel.size); (case aL => have := c4b; omega); intro v12 w12 ho12 hb12 hg12 hat12; have n0_ := Aside0.mk (show SkI ns (some ad) c w w12 gt gb v12 (out3 ++ (nmL (rd_T43 ns i).f0).data.toList ++ [40]) (o3 ++ [wrap64 (i + (rd_T43 ns i).f3)]) from ⟨blk_grown HI.out.box hg12 (Kd.R_ne HI.out.opn HI.out.box (by decide)), (BKeep.grown hg12 HI.out.opn (by decide) (row_bld HI.out.bld HI.out.opn)).bld HI.out.bld, ho12, hb12⟩); clear HI BX z3 ho12 hb12 hg12 hat12; have HI := n0_; clear n0_)
                          | fail)
                        go_roundg k4
                        case measure => have := HK1.out; have := HK3.out; omega
                        case rel => exact ⟨out3 ++ (nmL (rd_T43 ns i).f0).data.toList ++ [40], o3 ++ [wrap64 (i + (rd_T43 ns i).f3)], wrap64 (i + 1), by first | rfl | (simp; done) | (simp [*]; done), H', ⟨by have := HK1.out; have := HK3.out; omega⟩, HI⟩
                      · rw [if_neg c9] at H
                        have c9b : decide (1 < (rd_T43 ns i).f3) = false := decide_eq_false c9
                        have H' := Aside0.mk H
                        clear H c9
                        go_wp2
                        go_roundg k4
                        case measure => have := HK1.out; have := HK3.out; omega
                        case rel => exact ⟨out3 ++ (nmL (rd_T43 ns i).f0).data.toList, o3, wrap64 (i + 1), by first | rfl | (simp; done) | (simp [*]; done), H', ⟨by have := HK1.out; have := HK3.out; omega⟩, HI⟩
                · rw [if_neg c4] at H
                  cases H
          · rw [if_neg c3] at H
            cases H
        · rw [if_neg c2] at H
          have c2b0 : decide (i < (ns.length : Int)) = false := decide_eq_false c2
          clear c2
          have H' := Aside0.mk H
          clear H
          go_wp2
          go_loopg [69] k1 (fun kq v69 w' => ∃ (out5 : List UInt8) (j : Int), v69 = .int .i64 j ∧ Aside0 (tree_Sketch.l2 kq out5 o j = some l) ∧ Aside0 (kq ≤ k1) ∧ Aside0 (SkI ns A c w w' gt gb (.slice Ao o.length co) out5 o))
          case atStart => exact ⟨out, 0, rfl, H', ⟨Nat.le_refl _⟩, HI⟩
          case round =>
            clear H' HI
            obtain ⟨out5, j, rfl, HA, HK5, HI⟩ := hrel
            cases gk with
            | zero => exact absurd HA.out (by simp [tree_Sketch.l2])
            | succ k5 =>
              have H := HA.out
              clear HA
              simp only [tree_Sketch.l2] at H
              by_cases c11 : j < (o.length : Int)
              · rw [if_pos c11] at H
                have c11b : decide (j < (o.length : Int)) = true := decide_eq_true c11
                clear c11
                by_cases c12 : out5.length < 140737488355328
                · rw [if_pos c12] at H
                  have H' := Aside0.mk H
                  clear H
                  go_wp2_with (fail)
                  refine (WriteByte_k w.heap.size gb (Lib.byteCells out5) 41 _ HI.out.bld (by rw [Lib.byteCells_length]; omega) HI.out.bel.size).mono ?_
                  rintro e w21 ⟨rfl, hb21, hbel21, ho21⟩
                  have n0_ := Aside0.mk (HI.out.wrote hb21 hbel21 ho21 (cells_snoc out5 41))
                  clear HI hb21 hbel21 ho21
                  have HI := n0_
                  clear n0_
                  go_wp2
                  go_roundg k5
                  case measure => have := HK5.out; omega
                  case rel => exact ⟨out5 ++ [41], wrap64 (j + 1), by first | rfl | (simp; done) | (simp [*]; done), H', ⟨by have := HK5.out; omega⟩, HI⟩
                · rw [if_neg c12] at H
                  cases H
              · rw [if_neg c11] at H
                have c11b : decide (j < (o.length : Int)) = false := decide_eq_false c11
                clear c11
                obtain rfl := Option.some.inj H
                clear H
                go_wp2_with (fail)
                refine (Tryd.Builder_String_any_k w.heap.size gb out5 _ HI.out.bld HI.out.bel.size).mono ?_
                rintro e w22 ⟨rfl, _, hbel22, _⟩
                have n0_ := Aside0.mk (HI.out.bel.trans hbel22)
                clear HI hbel22
                go_wp2
                go_ret
                exact ⟨rfl, n0_.out⟩
end Go.Proofs.YtodldpdnhcafpaaDoor.F
