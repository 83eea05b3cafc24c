/- Texts of the proof of one law (Both), part 0: functions printed as Lean functions with their walks, and what is proved of them. Conditions: those of each theorem. -/
import Derived.Test.YtaihajmdngoeiaaWMore
import Derived.Test.YtaihajmdngoeiaaProg
import Derived.Below
import Derived.Deep.Draws
import Derived.Deep.AppendLies
import Derived.Maps.AppendAt
import Derived.OwnWalk
import Derived.Laws.BytesArg
import Derived.Laws.MakeOwn
import Derived.Laws.OwnMore
import Derived.Deep.OwnRows
import Derived.Tactics
import Derived.Lib.ConvBytes
import Derived.Laws.Slices
import Derived.WalkKit
import Derived.KernelRfl
import Derived.RowKit3
import Derived.Deep.LoopGhost
import Derived.Deep.QuietTactic
import Derived.BigQuiet
import Derived.WideLaws
import Derived.Deep.DeepCutAuto
import Derived.Deep.CutBlock
import Derived.Deep.RegionHeld3
import Derived.Laws.Rows
import Derived.Lib.AppendStr
import Derived.ArgAppend
import Derived.Laws.IdiomCopy
import Derived.OrdersHeld
import Derived.Laws.BitsLemmas
import Derived.WalkMore
import Derived.RowKit
import Derived.Test.YtaihajmdngoeiaaWWords
import Derived.Test.YtaihajmdngoeiaaWLast
import Derived.Test.YtaihajmdngoeiaaWTab
import Derived.Test.YtaihajmdngoeiaaWFour
import Derived.Test.YtaihajmdngoeiaaWQPut
import Derived.Test.YtaihajmdngoeiaaWApart
import Derived.Test.YtaihajmdngoeiaaWArr
import Derived.Test.YtaihajmdngoeiaaWZeros
import Derived.Test.YtaihajmdngoeiaaWFoot
import Derived.Test.YtaihajmdngoeiaaWKept
import Derived.Test.YtaihajmdngoeiaaWShare
import Derived.Test.YtaihajmdngoeiaaWN
import Derived.Test.YtaihajmdngoeiaaWFootNe
import Derived.Test.YtaihajmdngoeiaaWAt
import Derived.Test.YtaihajmdngoeiaaWEqStruct
import Derived.Test.YtaihajmdngoeiaaWRepsOne
import Derived.Test.YtaihajmdngoeiaaWInv
import Derived.Test.YtaihajmdngoeiaaWInvWords
import Derived.Test.YtaihajmdngoeiaaWGuard
import Derived.Test.YtaihajmdngoeiaaWNEv
import Derived.BigRegion
namespace Go.Proofs.YtaihajmdngoeiaaW.PrintWords
open Go.RowKit
set_option linter.unusedVariables false
section
variable {P : Program} {ops : Array Oper} {rest : List Oper} {o : Oper} {a : Act} {Q : Exit → Act → World → Prop} {α : Type}
/-- make([]T, 0, n): a row of the call's own without elements. -/
theorem Kd.R_makec (d : Kd α) {w0 W : World} (base e : Nat) (hgd : o.guard = none) {N : Tmp} (hd : o.dst = some N) (t : TypeId) (x y : Operand) (ho : o.op = .makeSlice t x y) (n : Int) (hx : a.eval x = .int .i64 0) (hy : a.eval y = .int .i64 n)
    (ht : P.underlying t = some (.slice e)) (z : Value) (bytes : Nat) (hinfo : (P.info? e).map (fun i => (i.zero, i.size, i.bytes)) = some (some z, d.sz, bytes)) (hz : z.cells.size = d.sz) (hs0 : 0 < d.sz) (hb0 : 0 < bytes)
    (z0 : α) {ok okp : Nat → Prop} (hzero : d.M W base okp z0 z.cells.toList) (hok : ∀ k, okp k → ok k) (hfresh : ok W.heap.size) (h0 : 0 ≤ n) (hl : n.toNat * bytes ≤ 281474976710656) (HB : Below base w0 W) (hbase : base ≤ W.heap.size)
    (h : ∀ v1 w1, d.R e w1 base ok v1 ([] : List α) → Below base w0 w1 → W.grownBy w1 none → (∃ b, v1.ownBlock = some b ∧ W.heap.size ≤ b) → wpList P ops Q rest (a.put o.dst v1) w1) : wpList P ops Q (o :: rest) a W := by
  obtain ⟨m, rfl⟩ := Int.eq_ofNat_of_zero_le h0
  simp only [Int.toNat_natCast] at hl
  obtain ⟨i0, hi, hzz⟩ := Option.map_eq_some_iff.1 hinfo
  simp only [Prod.mk.injEq] at hzz
  obtain ⟨hz0, hz1, hz2⟩ := hzz
  have hm : m ≤ 281474976710656 := Nat.le_trans (Nat.le_mul_of_pos_right _ hb0) hl
  refine wpList_make_own W hgd x y t ho base e i0 z d.sz ht hi hz0 hz1 .i64 .i64 (m : Int) m hx hy rfl (by rw [hz2, Nat.mul_comm]; exact hl) (by unfold maxLen; omega) hbase ?_
  intro w' hown hg
  refine h _ w' ⟨?_, [], hown, Reps.none _ _⟩ (HB.grown hg hbase (by simp)) hg ⟨W.heap.size, rfl, Nat.le_refl _⟩
  intro k hk
  have : W.heap.size = k := by simpa [Value.ownBlock] using hk
  exact this ▸ hfresh
end
end Go.Proofs.YtaihajmdngoeiaaW.PrintWords

-- A text of this session's own program (wip/myprint.sh over a changed print tool): functions and their walks
namespace Go.Proofs.Ytaihajmdngoeiaa.F
open Go.RowKit Go.Proofs.YtaihajmdngoeiaaW.PrintWords Go.Proofs.YtaihajmdngoeiaaW.PrintLast Go.Proofs.YtaihajmdngoeiaaW.PrintMore
attribute [local go_sem] max2_int min2_int max_two min_two max_three min_three max_four min_four   -- for this text's walks alone
set_option linter.unusedVariables false
set_option linter.unusedSimpArgs false



def errW : Option Int → Value
  | none => .nilIface
  | some c => .iface 0 (.int .i64 c)
theorem errW_none : errW none = .nilIface := rfl
theorem errW_some (c : Int) : errW (some c) = .iface 0 (.int .i64 c) := rfl

theorem info5 : (Try.prog.info? 5).map (fun i => (i.zero, i.size, i.bytes)) = some (some (.int .u8 0), 1, 1) := by kernel_rfl
theorem info42 : (Try.prog.info? 42).map (fun i => (i.zero, i.size, i.bytes)) = some (some (.agg #[(.int .i64 0), (.int .i64 0), (.string ⟨#[]⟩)]), 3, 32) := by kernel_rfl
-- the values' own types
/-! #### struct type 42 -/
structure S42 where
  f0 : Int
  f1 : Int
  f2 : ByteArray
def z42 : S42 := ⟨(0 : Int), (0 : Int), (⟨#[]⟩ : ByteArray)⟩
def k42 : Kd S42 := Kd.iso (Kd.pair (Kd.int .i64) (Kd.pair (Kd.int .i64) Kd.string)) (fun x : S42 => (x.f0, x.f1, x.f2))
theorem k42_open {w : World} {x : S42} {cs : List Value} (h : k42.K w x cs) : cs = [.int .i64 x.f0, .int .i64 x.f1, .string x.f2] := by
  obtain ⟨_, _, rfl, rfl, ⟨_, _, rfl, rfl, rfl⟩⟩ := h
  exact rfl
theorem k42_openM {w : World} {base : Nat} {ok : Nat → Prop} {x : S42} {cs : List Value} (h : k42.M w base ok x cs) : cs = [.int .i64 x.f0, .int .i64 x.f1, .string x.f2] := by
  obtain ⟨_, _, rfl, rfl, ⟨_, _, rfl, rfl, rfl⟩⟩ := h
  exact rfl
theorem k42_mk (w : World) (x : S42)  : k42.K w x [.int .i64 x.f0, .int .i64 x.f1, .string x.f2] := ⟨[.int .i64 x.f0], [.int .i64 x.f1, .string x.f2], rfl, rfl, ⟨[.int .i64 x.f1], [.string x.f2], rfl, rfl, rfl⟩⟩
theorem k42_mkM (w : World) (base : Nat) (ok : Nat → Prop) (x : S42)  : k42.M w base ok x [.int .i64 x.f0, .int .i64 x.f1, .string x.f2] := ⟨[.int .i64 x.f0], [.int .i64 x.f1, .string x.f2], rfl, rfl, ⟨[.int .i64 x.f1], [.string x.f2], rfl, rfl, rfl⟩⟩
def rd_T42 (xs : List S42) (i : Int) : S42 := xs.getD i.toNat z42
theorem at_T42 {w : World} {A : Option Addr} {n : Nat} {xs : List S42} (h : Kd.C k42 w A n xs) (i : Int) (h0 : 0 ≤ i) (h1 : i < n) : ∃ ad , A = some ad ∧ w.cell? (ad.add (i.toNat * 3)) = some (.int .i64 (rd_T42 xs i).f0) ∧ w.cell? ⟨(ad.add (i.toNat * 3)).block, (ad.add (i.toNat * 3)).off + 1, none⟩ = some (.int .i64 (rd_T42 xs i).f1) ∧ w.cell? ⟨(ad.add (i.toNat * 3)).block, (ad.add (i.toNat * 3)).off + 2, none⟩ = some (.string (rd_T42 xs i).f2) := by
  obtain ⟨ad, c, e, _, hK, hc0⟩ := Kd.C_get h z42 i h0 h1
  have hc : ∀ j u, c[j]? = some u → w.cell? (ad.add (i.toNat * 3 + j)) = some u := hc0
  obtain rfl := k42_open hK
  exact ⟨ad, e, hc 0 _ rfl, by rw [← add_field _ _ 1 (by omega)]; exact hc 1 _ rfl, by rw [← add_field _ _ 2 (by omega)]; exact hc 2 _ rfl⟩

/-! #### struct type 61 -/
structure S61 where
  f0 : Bool
  f1 : Int
  f2 : Int
  f3 : ByteArray
end Go.Proofs.Ytaihajmdngoeiaa.F

-- A text of this session's own program (wip/myprint.sh over a changed print tool): functions and their walks
namespace Go.Proofs.Ytaihajmdngoeiaa.F
open Go.RowKit Go.Proofs.YtaihajmdngoeiaaW.PrintWords Go.Proofs.YtaihajmdngoeiaaW.PrintLast Go.Proofs.YtaihajmdngoeiaaW.PrintMore
attribute [local go_sem] max2_int min2_int max_two min_two max_three min_three max_four min_four   -- for this text's walks alone
set_option linter.unusedVariables false
set_option linter.unusedSimpArgs false

/-! ### edits_valid: function 32 -/
mutual
def edits_valid.l0 : Nat → Int → List (S42) → List (S42) → Int → Int → Option (Int)
  | 0, _, _, _, _, _ => none
  | k + 1, x0, x1, x12, x13, x14 => if x14 < x13 then (if 0 ≤ x14 then (if x14 < (x12.length : Int) then (if ((rd_T42 x12 x14).f0) < 0 then (edits_valid.j1 k x0 x1 x14 x12 x13 x14 true ((rd_T42 x12 x14).f0) ((rd_T42 x12 x14).f1) ((rd_T42 x12 x14).f2)) else (if ((rd_T42 x12 x14).f1) < ((rd_T42 x12 x14).f0) then (edits_valid.j1 k x0 x1 x14 x12 x13 x14 true ((rd_T42 x12 x14).f0) ((rd_T42 x12 x14).f1) ((rd_T42 x12 x14).f2)) else (edits_valid.j1 k x0 x1 x14 x12 x13 x14 (decide (((rd_T42 x12 x14).f1) > x0)) ((rd_T42 x12 x14).f0) ((rd_T42 x12 x14).f1) ((rd_T42 x12 x14).f2)))) else (none)) else (none)) else (some 0)
def edits_valid.j1 : Nat → Int → List (S42) → Int → List (S42) → Int → Int → Bool → Int → Int → ByteArray → Option (Int)
  | 0, _, _, _, _, _, _, _, _, _, _ => none
  | k + 1, x0, x1, x5, x12, x13, x14, x34, x118000, x118001, x118002 => if x34 = true then (some 10) else (if 0 ≤ (mx (wrap64 (x5 - 1)) 0) then (if (mx (wrap64 (x5 - 1)) 0) ≤ x5 then (if x5 ≤ (x1.length : Int) then ((some ((x1.take (x5 : Int).toNat).drop ((mx (wrap64 (x5 - 1)) 0) : Int).toNat : List (S42))).bind fun y118 => (edits_valid.l1 k x0 x1 x12 x13 x14 y118 (y118.length : Int) 0 x118000 x118001 x118002)) else (none)) else (none)) else (none))
def edits_valid.l1 : Nat → Int → List (S42) → List (S42) → Int → Int → List (S42) → Int → Int → Int → Int → ByteArray → Option (Int)
  | 0, _, _, _, _, _, _, _, _, _, _, _ => none
  | k + 1, x0, x1, x12, x13, x14, x40, x41, x42, x118000, x118001, x118002 => if x42 < x41 then (if 0 ≤ x42 then (if x42 < (x40.length : Int) then (if x118000 > ((rd_T42 x40 x42).f1) then (edits_valid.l0 k x0 x1 x12 x13 (wrap64 (x14 + 1))) else (some 11)) else (none)) else (none)) else (edits_valid.l0 k x0 x1 x12 x13 (wrap64 (x14 + 1)))
end
def edits_valid.f (k : Nat) (a0 : Int) (l1 : List (S42)) : Option (Int) := if (l1.length : Int) > 65536 then (some 2) else (edits_valid.l0 k a0 l1 l1 (l1.length : Int) 0)
set_option maxHeartbeats 8000000 in
set_option maxRecDepth 100000 in
theorem edits_valid.calls (k : Nat) (a0 : Int) (A1 : Option Addr) (c1 : Nat) (l1 : List (S42)) (r : Int) (w : World) (hr1 : Kd.C k42 w A1 l1.length l1) (hc1 : l1.length ≤ c1) (h : edits_valid.f k a0 l1 = some r) :
    Calls Try.prog 32 #[.int .i64 a0, .slice A1 l1.length c1] w fun e w' => e = .returned (.int .i64 r) ∧ Below w.heap.size w w' := by
  have hu42 := Try.underlying42
  have HR1 := Aside0.mk hr1
  have HC1 := Aside0.mk hc1
  clear hr1 hc1
  have HB := Aside0.mk (Below.refl w.heap.size w)
  have H : (if (l1.length : Int) > 65536 then (some 2) else (edits_valid.l0 k a0 l1 l1 (l1.length : Int) 0)) = some r := h
  clear h
  by_cases c3 : (l1.length : Int) > 65536
  · rw [if_pos c3] at H
    have c3b0 : decide (65536 < (l1.length : Int)) = true := decide_eq_true c3
    have c3b1 : decide (65536 < l1.length) = true := decide_eq_true (by omega)
    clear c3
    obtain rfl := Option.some.inj H
    go_enter Try.func32, Try.ntmps32
    go_wp2
    repeat (all_goals (go_step3; go_wp2))
    (try rw [Exit.noGoto_ret])
    go_ret
    exact ⟨by first | rfl | (simp [errW_none, errW_some] <;> rfl) | (simp [*, errW_none, errW_some] <;> rfl), by repeat (first | (with_reducible first | exact HB.out | apply below_alloc | apply pw_below_drewN | apply below_drew1) | exact HB.out)⟩
  · rw [if_neg c3] at H
    have c3b0 : decide (65536 < (l1.length : Int)) = false := decide_eq_false c3
    have c3b1 : decide (65536 < l1.length) = false := decide_eq_false (by omega)
    clear c3
    have H' := Aside0.mk H
    clear H
    go_enter Try.func32, Try.ntmps32
    go_wp2
    repeat (all_goals (go_step3; go_wp2))
    go_loopg [14] k (fun kq v14 w' => ∃ (x14_1 : Int), v14 = .int .i64 x14_1 ∧ Aside0 (edits_valid.l0 kq a0 l1 l1 (l1.length : Int) x14_1 = some r) ∧ Aside0 (kq ≤ k) ∧ Aside0 (Below w.heap.size w w'))
    case atStart => exact ⟨(0), (by first | rfl | (simp; done) | (simp [*]; done)), H', ⟨Nat.le_refl _⟩, ⟨by repeat (first | (with_reducible first | exact HB.out | apply below_alloc | apply pw_below_drewN | apply below_drew1) | exact HB.out)⟩⟩
    case round =>
      clear H'
      try clear c1
      try clear p2
      try clear c3
      try clear c3b0
      try clear c3b1
      obtain ⟨x14_1, rfl, HA, HK1, HB⟩ := hrel
      cases gk with
      | zero => exact absurd HA.out (by simp [edits_valid.l0])
      | succ k1 =>
        have H := HA.out
        clear HA
        simp only [edits_valid.l0] at H
        by_cases c4 : x14_1 < (l1.length : Int)
        · rw [if_pos c4] at H
          have c4b0 : decide (x14_1 < (l1.length : Int)) = true := decide_eq_true c4
          clear c4
          by_cases c5 : 0 ≤ x14_1
          · rw [if_pos c5] at H
            have c5b0 : decide (0 ≤ x14_1) = true := decide_eq_true c5
            clear c5
            by_cases c6 : x14_1 < (l1.length : Int)
            · rw [if_pos c6] at H
              have c6b0 : decide (x14_1 < (l1.length : Int)) = true := decide_eq_true c6
              clear c6
              have HC7 := Aside0.mk H
              clear H
              have p116 : 0 ≤ (x14_1 : Int) := of_decide_eq_true (by first | (with_reducible assumption) | assumption)
              have q116 : x14_1 < (l1.length : Int) := of_decide_eq_true (by first | (with_reducible assumption) | assumption)
              obtain ⟨ad116, e116, hx116_0, hx116_1, hx116_2⟩ := at_T42 HR1.out x14_1 p116 q116
              cases e116
              replace hx116_0 := (HB.out.cell (World.block_lt_of_cell? w _ hx116_0)).trans hx116_0
              replace hx116_1 := (HB.out.cell (World.block_lt_of_cell? w _ hx116_1)).trans hx116_1
              replace hx116_2 := (HB.out.cell (World.block_lt_of_cell? w _ hx116_2)).trans hx116_2
              replace p116 := eq_true p116
              replace q116 := eq_true q116
              go_upto_region 6 with (first | ((with_reducible refine gate_dst (N := 6) rfl ?_); refine box_event ?hg (N := 6) ?hd (cs := #[.int .i64 0, .int .i64 0, .string (⟨#[]⟩ : ByteArray)]) (t := 42) ?hr ?_; (case hd => rfl); (case hg => rfl); (case hr => first | (go_simp; done) | (go_simp; rfl)); intro gb117 hg w8 hbox hb; have n0_ := Aside0.mk (below_step (by repeat (first | (with_reducible first | exact HB.out | apply below_alloc | apply pw_below_drewN | apply below_drew1) | exact HB.out)) hb); have n1_ := Aside0.mk (hbox); have n2_ := Aside0.mk ((by rw [hg]; exact (below_size (by repeat (first | (with_reducible first | exact HB.out | apply below_alloc | apply pw_below_drewN | apply below_drew1) | exact HB.out))) : w.heap.size ≤ gb117)); have n3_ := Aside0.mk ((by rw [hg]; exact (below_size (by repeat (first | (with_reducible first | exact HB.out | apply below_alloc | apply pw_below_drewN | apply below_drew1) | exact HB.out))) : w.heap.size ≤ gb117)); clear HB; have HB := n0_; have BK117 := n1_; have GW117 := n2_; have GE117 := n3_; clear n0_ n1_ n2_ n3_; clear hb hbox hg; have hcz9_0 : w8.cell? ⟨gb117, 0, none⟩ = some (.int .i64 0) := (blk_cell BK117.out 0).trans rfl; have hcz9_1 : w8.cell? ⟨gb117, 1, none⟩ = some (.int .i64 0) := (blk_cell BK117.out 1).trans rfl; have hcz9_2 : w8.cell? ⟨gb117, 2, none⟩ = some (.string (⟨#[]⟩ : ByteArray)) := (blk_cell BK117.out 2).trans rfl; have hfz9_0 := blk_frozen BK117.out 0; have hfz9_1 := blk_frozen BK117.out 1; have hfz9_2 := blk_frozen BK117.out 2))
              (try simp only [Act.put, List.setIfInBounds_toArray, List.set_cons_zero, List.set_cons_succ])
              go_cut [34] (fun v34 wc => ∃ (kq : Nat) (x34_6 : Bool), v34 = .bool x34_6 ∧ Aside0 (edits_valid.j1 kq a0 l1 x14_1 l1 (l1.length : Int) x14_1 x34_6 ((rd_T42 l1 x14_1).f0) ((rd_T42 l1 x14_1).f1) ((rd_T42 l1 x14_1).f2) = some r) ∧ Aside0 (kq ≤ k1) ∧ Aside0 (wc.heap[gb117]? = some (.cells #[.int .i64 ((rd_T42 l1 x14_1).f0), .int .i64 ((rd_T42 l1 x14_1).f1), .string ((rd_T42 l1 x14_1).f2)] 42 (0, 0))) ∧ Aside0 (Below w.heap.size w wc))
              case first =>
                have H := HC7.out
                clear HC7
                by_cases c10 : ((rd_T42 l1 x14_1).f0) < 0
                · rw [if_pos c10] at H
                  have c10b0 : decide (((rd_T42 l1 x14_1).f0) < 0) = true := decide_eq_true c10
                  clear c10
                  (first | rw [c10b0] | (simp only [i64_w, i32_w]; rw [c10b0]) | skip)
                  have H' := Aside0.mk H
                  clear H
                  have hcz11_0 : w8.cell? ⟨gb117, 0, none⟩ = some (.int .i64 0) := (blk_cell BK117.out 0).trans rfl
                  have hcz11_1 : w8.cell? ⟨gb117, 1, none⟩ = some (.int .i64 0) := (blk_cell BK117.out 1).trans rfl
                  have hcz11_2 : w8.cell? ⟨gb117, 2, none⟩ = some (.string (⟨#[]⟩ : ByteArray)) := (blk_cell BK117.out 2).trans rfl
                  have hfz11_0 := blk_frozen BK117.out 0
                  have hfz11_1 := blk_frozen BK117.out 1
                  have hfz11_2 := blk_frozen BK117.out 2
                  go_wp2
                  repeat (all_goals (go_step3; go_wp2))
                  go_meet
                  case rel => exact ⟨_, (true), (by first | rfl | (simp; done) | (simp [*]; done)), H', ⟨by have := HK1.out; first | omega | exact Nat.le_refl _⟩, ⟨by (with_reducible repeat (first | refine blk_drewN ?_ _ | refine blk_drew ?_ | refine blk_alloc ?_ _)); refine blk_put (cs := #[.int .i64 ((rd_T42 l1 x14_1).f0), .int .i64 ((rd_T42 l1 x14_1).f1), .string (⟨#[]⟩ : ByteArray)]) ?_ 2 _ rfl; (with_reducible repeat (first | refine blk_drewN ?_ _ | refine blk_drew ?_ | refine blk_alloc ?_ _)); refine blk_put (cs := #[.int .i64 ((rd_T42 l1 x14_1).f0), .int .i64 0, .string (⟨#[]⟩ : ByteArray)]) ?_ 1 _ rfl; (with_reducible repeat (first | refine blk_drewN ?_ _ | refine blk_drew ?_ | refine blk_alloc ?_ _)); refine blk_put (cs := #[.int .i64 0, .int .i64 0, .string (⟨#[]⟩ : ByteArray)]) ?_ 0 _ rfl; (with_reducible repeat (first | refine blk_drewN ?_ _ | refine blk_drew ?_ | refine blk_alloc ?_ _)); exact BK117.out⟩, ⟨by repeat (first | (with_reducible first | exact HB.out | apply below_alloc | apply pw_below_drewN | apply below_drew1 | refine below_set ?_ GE117.out) | exact HB.out)⟩⟩
                · rw [if_neg c10] at H
                  have c10b0 : decide (((rd_T42 l1 x14_1).f0) < 0) = false := decide_eq_false c10
                  clear c10
                  (first | rw [c10b0] | (simp only [i64_w, i32_w]; rw [c10b0]) | skip)
                  by_cases c12 : ((rd_T42 l1 x14_1).f1) < ((rd_T42 l1 x14_1).f0)
                  · rw [if_pos c12] at H
                    have c12b0 : decide (((rd_T42 l1 x14_1).f1) < ((rd_T42 l1 x14_1).f0)) = true := decide_eq_true c12
                    clear c12
                    have H' := Aside0.mk H
                    clear H
                    have hcz13_0 : w8.cell? ⟨gb117, 0, none⟩ = some (.int .i64 0) := (blk_cell BK117.out 0).trans rfl
                    have hcz13_1 : w8.cell? ⟨gb117, 1, none⟩ = some (.int .i64 0) := (blk_cell BK117.out 1).trans rfl
                    have hcz13_2 : w8.cell? ⟨gb117, 2, none⟩ = some (.string (⟨#[]⟩ : ByteArray)) := (blk_cell BK117.out 2).trans rfl
                    have hfz13_0 := blk_frozen BK117.out 0
                    have hfz13_1 := blk_frozen BK117.out 1
                    have hfz13_2 := blk_frozen BK117.out 2
                    go_wp2
                    repeat (all_goals (go_step3; go_wp2))
                    go_meet
                    case rel => exact ⟨_, (true), (by first | rfl | (simp; done) | (simp [*]; done)), H', ⟨by have := HK1.out; first | omega | exact Nat.le_refl _⟩, ⟨by (with_reducible repeat (first | refine blk_drewN ?_ _ | refine blk_drew ?_ | refine blk_alloc ?_ _)); refine blk_put (cs := #[.int .i64 ((rd_T42 l1 x14_1).f0), .int .i64 ((rd_T42 l1 x14_1).f1), .string (⟨#[]⟩ : ByteArray)]) ?_ 2 _ rfl; (with_reducible repeat (first | refine blk_drewN ?_ _ | refine blk_drew ?_ | refine blk_alloc ?_ _)); refine blk_put (cs := #[.int .i64 ((rd_T42 l1 x14_1).f0), .int .i64 0, .string (⟨#[]⟩ : ByteArray)]) ?_ 1 _ rfl; (with_reducible repeat (first | refine blk_drewN ?_ _ | refine blk_drew ?_ | refine blk_alloc ?_ _)); refine blk_put (cs := #[.int .i64 0, .int .i64 0, .string (⟨#[]⟩ : ByteArray)]) ?_ 0 _ rfl; (with_reducible repeat (first | refine blk_drewN ?_ _ | refine blk_drew ?_ | refine blk_alloc ?_ _)); exact BK117.out⟩, ⟨by repeat (first | (with_reducible first | exact HB.out | apply below_alloc | apply pw_below_drewN | apply below_drew1 | refine below_set ?_ GE117.out) | exact HB.out)⟩⟩
                  · rw [if_neg c12] at H
                    have c12b0 : decide (((rd_T42 l1 x14_1).f1) < ((rd_T42 l1 x14_1).f0)) = false := decide_eq_false c12
                    clear c12
                    have H' := Aside0.mk H
                    clear H
                    have hcz14_0 : w8.cell? ⟨gb117, 0, none⟩ = some (.int .i64 0) := (blk_cell BK117.out 0).trans rfl
                    have hcz14_1 : w8.cell? ⟨gb117, 1, none⟩ = some (.int .i64 0) := (blk_cell BK117.out 1).trans rfl
                    have hcz14_2 : w8.cell? ⟨gb117, 2, none⟩ = some (.string (⟨#[]⟩ : ByteArray)) := (blk_cell BK117.out 2).trans rfl
                    have hfz14_0 := blk_frozen BK117.out 0
                    have hfz14_1 := blk_frozen BK117.out 1
                    have hfz14_2 := blk_frozen BK117.out 2
                    go_wp2
                    repeat (all_goals (go_step3; go_wp2))
                    go_meet
                    case rel => exact ⟨_, (decide (((rd_T42 l1 x14_1).f1) > a0)), (by first | rfl | (simp; done) | (simp [*]; done)), H', ⟨by have := HK1.out; first | omega | exact Nat.le_refl _⟩, ⟨by (with_reducible repeat (first | refine blk_drewN ?_ _ | refine blk_drew ?_ | refine blk_alloc ?_ _)); refine blk_put (cs := #[.int .i64 ((rd_T42 l1 x14_1).f0), .int .i64 ((rd_T42 l1 x14_1).f1), .string (⟨#[]⟩ : ByteArray)]) ?_ 2 _ rfl; (with_reducible repeat (first | refine blk_drewN ?_ _ | refine blk_drew ?_ | refine blk_alloc ?_ _)); refine blk_put (cs := #[.int .i64 ((rd_T42 l1 x14_1).f0), .int .i64 0, .string (⟨#[]⟩ : ByteArray)]) ?_ 1 _ rfl; (with_reducible repeat (first | refine blk_drewN ?_ _ | refine blk_drew ?_ | refine blk_alloc ?_ _)); refine blk_put (cs := #[.int .i64 0, .int .i64 0, .string (⟨#[]⟩ : ByteArray)]) ?_ 0 _ rfl; (with_reducible repeat (first | refine blk_drewN ?_ _ | refine blk_drew ?_ | refine blk_alloc ?_ _)); exact BK117.out⟩, ⟨by repeat (first | (with_reducible first | exact HB.out | apply below_alloc | apply pw_below_drewN | apply below_drew1 | refine below_set ?_ GE117.out) | exact HB.out)⟩⟩
              case rest =>
                clear HC7
                try clear c1
                try clear p1
                try clear q1
                try clear hx1
                try clear p2
                try clear c3
                try clear c3b0
                try clear c3b1
                try clear c4
                try clear c4b0
                try clear c5
                try clear c5b0
                try clear c6
                try clear c6b0
                try clear c10
                try clear c10b0
                try clear p11
                try clear q11
                try clear hx11
                try clear c12
                try clear c12b0
                try clear hcz11_0
                try clear hcz11_1
                try clear hcz11_2
                try clear hcz13_0
                try clear hcz13_1
                try clear hcz13_2
                try clear hcz14_0
                try clear hcz14_1
                try clear hcz14_2
                try clear hcz9_0
                try clear hcz9_1
                try clear hcz9_2
                try clear hfz11_0
                try clear hfz11_1
                try clear hfz11_2
                try clear hfz13_0
                try clear hfz13_1
                try clear hfz13_2
                try clear hfz14_0
                try clear hfz14_1
                try clear hfz14_2
                try clear hfz9_0
                try clear hfz9_1
                try clear hfz9_2
                try clear hx116_0
                try clear hx116_1
                try clear hx116_2
                try clear p116
                try clear p2
                try clear q116
                obtain ⟨kq, x34_6, rfl, HA, HJ6, BK117, HB⟩ := hcut
                cases kq with
                | zero => exact absurd HA.out (by simp [edits_valid.j1])
                | succ kj6 =>
                  have H := HA.out
                  clear HA
                  simp only [edits_valid.j1] at H
                  by_cases c15 : x34_6 = true
                  · subst c15
                    have H1 : (some 10) = some r := by rw [if_pos rfl] at H; exact H
                    clear H
                    have H := H1
                    clear H1
                    obtain rfl := Option.some.inj H
                    go_wp2
                    repeat (all_goals (go_step3; go_wp2))
                    (try rw [Exit.noGoto_ret])
                    go_ret
                    exact ⟨by first | rfl | (simp [errW_none, errW_some] <;> rfl) | (simp [*, errW_none, errW_some] <;> rfl), by repeat (first | (with_reducible first | exact HB.out | apply below_alloc | apply pw_below_drewN | apply below_drew1 | refine below_set ?_ GE117.out) | exact HB.out)⟩
                  · replace c15 := Bool.eq_false_iff.mpr c15
                    subst c15
                    have H1 : (if 0 ≤ (mx (wrap64 (x14_1 - 1)) 0) then (if (mx (wrap64 (x14_1 - 1)) 0) ≤ x14_1 then (if x14_1 ≤ (l1.length : Int) then ((some ((l1.take (x14_1 : Int).toNat).drop ((mx (wrap64 (x14_1 - 1)) 0) : Int).toNat : List (S42))).bind fun y118 => (edits_valid.l1 kj6 a0 l1 l1 (l1.length : Int) x14_1 y118 (y118.length : Int) 0 ((rd_T42 l1 x14_1).f0) ((rd_T42 l1 x14_1).f1) ((rd_T42 l1 x14_1).f2))) else (none)) else (none)) else (none)) = some r := by rw [if_neg (show ¬ (false = true) by decide)] at H; exact H
                    clear H
                    have H := H1
                    clear H1
                    obtain ⟨ji16, hji16⟩ : ∃ j_ : Int, (mx (wrap64 (x14_1 - 1)) 0) = j_ := ⟨_, rfl⟩
                    replace H : (if 0 ≤ (ji16) then (if (ji16) ≤ x14_1 then (if x14_1 ≤ (l1.length : Int) then ((some ((l1.take (x14_1 : Int).toNat).drop ((ji16) : Int).toNat : List (S42))).bind fun y118 => (edits_valid.l1 kj6 a0 l1 l1 (l1.length : Int) x14_1 y118 (y118.length : Int) 0 ((rd_T42 l1 x14_1).f0) ((rd_T42 l1 x14_1).f1) ((rd_T42 l1 x14_1).f2))) else (none)) else (none)) else (none)) = some r := by first | (rw [hji16] at H; exact H) | (simp only [hji16] at H ⊢; exact H)
                    have hji16_ : (if (wrap64 (x14_1 - 1)) < 0 then 0 else (wrap64 (x14_1 - 1))) = ji16 := hji16
                    by_cases c17 : 0 ≤ (ji16)
                    · rw [if_pos c17] at H
                      have c17b0 := eq_true c17
                      have c17b1 : decide (0 ≤ (ji16)) = true := decide_eq_true c17
                      clear c17
                      by_cases c18 : (ji16) ≤ x14_1
                      · rw [if_pos c18] at H
                        have c18b0 := eq_true c18
                        have c18b1 : decide ((ji16) ≤ x14_1) = true := decide_eq_true c18
                        clear c18
                        by_cases c19 : x14_1 ≤ (l1.length : Int)
                        · rw [if_pos c19] at H
                          have c19b0 := eq_true c19
                          have c19b1 : decide (x14_1 ≤ (l1.length : Int)) = true := decide_eq_true c19
                          clear c19
                          obtain ⟨y118, hy118⟩ : ∃ y_ : List (S42), y_ = ((l1.take (x14_1 : Int).toNat).drop ((ji16) : Int).toNat) := ⟨_, rfl⟩
                          replace H : (edits_valid.l1 kj6 a0 l1 l1 (l1.length : Int) x14_1 y118 (y118.length : Int) 0 ((rd_T42 l1 x14_1).f0) ((rd_T42 l1 x14_1).f1) ((rd_T42 l1 x14_1).f2)) = some r := by first | (rw [hy118]; with_reducible exact H) | (have H2_ := (Option.bind_some _ _).symm.trans H; rw [hy118]; with_reducible exact H2_) | (have H2_ := (Option.bind_some _ _).symm.trans H; with_reducible exact H2_) | with_reducible exact H | (rw [hy118]; exact H) | exact H
                          have Ny118 := Aside0.mk hy118
                          clear hy118
                          have H' := Aside0.mk H
                          clear H
                          have q20 : (x14_1 : Int) ≤ ((l1.length : Int) : Int) := of_decide_eq_true (by first | (with_reducible assumption) | assumption)
                          obtain ⟨i020, hi020, _, hsz20, _⟩ := info_parts info42
                          have hroom20 : l1.length ≤ c1 := HC1.out
                          have hC20 : Kd.C k42 _ (some ad116) l1.length l1 := HR1.out
                          have ql20 : ((ji16) : Int) ≤ (x14_1 : Int) := of_decide_eq_true (by first | (with_reducible assumption) | assumption)
                          have q020 : (0 : Int) ≤ ((ji16) : Int) := of_decide_eq_true (by first | (with_reducible assumption) | assumption)
                          have hcut20 := cut_mid (P := Try.prog) 22 42 .i64 .i64 Try.underlying22 hi020 3 hsz20 (some ad116) l1.length c1 (ji16) x14_1 q020 ql20 q20 hroom20
                          have hr20 := Kd.C_mid (lo := ((ji16) : Int).toNat) (hi := (x14_1 : Int).toNat) (c := c1) hC20 (by omega) (by omega) hroom20
                          obtain ⟨A20, hA20⟩ : ∃ A_, A_ = (if c1 = ((ji16) : Int).toNat then (some ad116) else ((some ad116) : Option Addr).map (·.add (((ji16) : Int).toNat * 3))) := ⟨_, rfl⟩
                          obtain ⟨c20, hc20⟩ : ∃ c_, c_ = c1 - ((ji16) : Int).toNat := ⟨_, rfl⟩
                          have hy20 : y118.length = (x14_1 : Int).toNat - ((ji16) : Int).toNat := (by rw [Ny118.out, List.length_drop, List.length_take] <;> omega)
                          rw [show ((l1).take (x14_1 : Int).toNat).drop ((ji16) : Int).toNat = y118 from Ny118.out.symm] at hr20
                          replace hr20 : Kd.C k42 _ A20 y118.length y118 := (by rw [hA20]; exact hr20)
                          rw [← hy20, ← hA20, ← hc20] at hcut20
                          have HR121 := Aside0.mk hr20
                          have HC121 := Aside0.mk (show y118.length ≤ c20 from by rw [hy20, hc20]; exact Nat.sub_le_sub_right (Nat.le_trans (by omega) hroom20) _)
                          clear hr20 hC20 hroom20 hi020 hsz20 hc20
                          have KY20 := Aside0.mk hy20
                          have KA20 := Aside0.mk hA20
                          clear hy20 hA20
                          replace q20 := eq_true q20
                          go_wp2
                          repeat (all_goals (go_step3; go_wp2))
                          go_loopg [42] kj6 (fun kq v42 w' => ∃ (x42_3 : Int), v42 = .int .i64 x42_3 ∧ Aside0 (edits_valid.l1 kq a0 l1 l1 (l1.length : Int) x14_1 y118 (y118.length : Int) x42_3 ((rd_T42 l1 x14_1).f0) ((rd_T42 l1 x14_1).f1) ((rd_T42 l1 x14_1).f2) = some r) ∧ Aside0 (kq ≤ kj6) ∧ Aside0 (w'.heap[gb117]? = some (.cells #[.int .i64 ((rd_T42 l1 x14_1).f0), .int .i64 ((rd_T42 l1 x14_1).f1), .string ((rd_T42 l1 x14_1).f2)] 42 (0, 0))) ∧ Aside0 (Below w.heap.size w w'))
                          case atStart => exact ⟨(0), (by first | rfl | (simp; done) | (simp [*]; done)), H', ⟨Nat.le_refl _⟩, ⟨by (with_reducible repeat (first | refine blk_drewN ?_ _ | refine blk_drew ?_ | refine blk_alloc ?_ _)); exact BK117.out⟩, ⟨by repeat (first | (with_reducible first | exact HB.out | apply below_alloc | apply pw_below_drewN | apply below_drew1 | refine below_set ?_ GE117.out) | exact HB.out)⟩⟩
                          case round =>
                            clear H'
                            try clear c1
                            try clear p1
                            try clear q1
                            try clear hx1
                            try clear c2
                            try clear p2
                            try clear q2
                            try clear c3
                            try clear c3b0
                            try clear c3b1
                            try clear c4
                            try clear c4b0
                            try clear c5
                            try clear c5b0
                            try clear c6
                            try clear c6b0
                            try clear p6
                            try clear c10
                            try clear c10b0
                            try clear p11
                            try clear q11
                            try clear hx11
                            try clear c12
                            try clear c12b0
                            try clear c15
                            try clear c17
                            try clear c17b0
                            try clear c17b1
                            try clear c18
                            try clear c18b0
                            try clear c18b1
                            try clear c19
                            try clear c19b0
                            try clear c19b1
                            try clear c20
                            try clear q20
                            try clear hcz11_0
                            try clear hcz11_1
                            try clear hcz11_2
                            try clear hcz13_0
                            try clear hcz13_1
                            try clear hcz13_2
                            try clear hcz14_0
                            try clear hcz14_1
                            try clear hcz14_2
                            try clear hcz9_0
                            try clear hcz9_1
                            try clear hcz9_2
                            try clear hfz11_0
                            try clear hfz11_1
                            try clear hfz11_2
                            try clear hfz13_0
                            try clear hfz13_1
                            try clear hfz13_2
                            try clear hfz14_0
                            try clear hfz14_1
                            try clear hfz14_2
                            try clear hfz9_0
                            try clear hfz9_1
                            try clear hfz9_2
                            try clear hx116_0
                            try clear hx116_1
                            try clear hx116_2
                            try clear p1
                            try clear p11
                            try clear p116
                            try clear p2
                            try clear q020
                            try clear q1
                            try clear q11
                            try clear q116
                            try clear q20
                            obtain ⟨x42_3, rfl, HA, HK3, BK117, HB⟩ := hrel
                            cases gk with
                            | zero => exact absurd HA.out (by simp [edits_valid.l1])
                            | succ k3 =>
                              have H := HA.out
                              clear HA
                              simp only [edits_valid.l1] at H
                              by_cases c21 : x42_3 < (y118.length : Int)
                              · rw [if_pos c21] at H
                                have c21b0 : decide (x42_3 < (y118.length : Int)) = true := decide_eq_true c21
                                clear c21
                                by_cases c22 : 0 ≤ x42_3
                                · rw [if_pos c22] at H
                                  have c22b0 : decide (0 ≤ x42_3) = true := decide_eq_true c22
                                  clear c22
                                  by_cases c23 : x42_3 < (y118.length : Int)
                                  · rw [if_pos c23] at H
                                    have c23b0 : decide (x42_3 < (y118.length : Int)) = true := decide_eq_true c23
                                    clear c23
                                    by_cases c24 : ((rd_T42 l1 x14_1).f0) > ((rd_T42 y118 x42_3).f1)
                                    · rw [if_pos c24] at H
                                      have c24b0 : decide (((rd_T42 y118 x42_3).f1) < ((rd_T42 l1 x14_1).f0)) = true := decide_eq_true c24
                                      clear c24
                                      have H' := Aside0.mk H
                                      clear H
                                      have p122 : 0 ≤ (x42_3 : Int) := of_decide_eq_true (by first | (with_reducible assumption) | assumption)
                                      have q122 : x42_3 < (y118.length : Int) := of_decide_eq_true (by first | (with_reducible assumption) | assumption)
                                      obtain ⟨ad122, e122, hx122_0, hx122_1, hx122_2⟩ := at_T42 HR121.out x42_3 p122 q122
                                      cases e122
                                      replace hx122_0 := (HB.out.cell (World.block_lt_of_cell? w _ hx122_0)).trans hx122_0
                                      replace hx122_1 := (HB.out.cell (World.block_lt_of_cell? w _ hx122_1)).trans hx122_1
                                      replace hx122_2 := (HB.out.cell (World.block_lt_of_cell? w _ hx122_2)).trans hx122_2
                                      replace p122 := eq_true p122
                                      replace q122 := eq_true q122
                                      go_wp2_with (first | ((with_reducible refine gate_dst (N := 8) rfl ?_); refine box_event ?hg (N := 8) ?hd (cs := #[.int .i64 0, .int .i64 0, .string (⟨#[]⟩ : ByteArray)]) (t := 42) ?hr ?_; (case hd => rfl); (case hg => rfl); (case hr => first | (go_simp; done) | (go_simp; rfl)); intro gb123 hg w25 hbox hb; have n0_ := Aside0.mk (blk_below (g := gb117) (o := .cells #[.int .i64 ((rd_T42 l1 x14_1).f0), .int .i64 ((rd_T42 l1 x14_1).f1), .string ((rd_T42 l1 x14_1).f2)] 42 (0, 0)) (by (with_reducible repeat (first | refine blk_drewN ?_ _ | refine blk_drew ?_ | refine blk_alloc ?_ _)); exact BK117.out) hb); have n1_ := Aside0.mk (below_step (by repeat (first | (with_reducible first | exact HB.out | apply below_alloc | apply pw_below_drewN | apply below_drew1 | refine below_set ?_ GE117.out) | exact HB.out)) hb); have n2_ := Aside0.mk (hbox); have n3_ := Aside0.mk ((by rw [hg]; exact (below_size (by repeat (first | (with_reducible first | exact HB.out | apply below_alloc | apply pw_below_drewN | apply below_drew1 | refine below_set ?_ GE117.out) | exact HB.out))) : w.heap.size ≤ gb123)); have n4_ := Aside0.mk ((by rw [hg]; exact (below_size (by repeat (first | (with_reducible first | exact HB.out | apply below_alloc | apply pw_below_drewN | apply below_drew1 | refine below_set ?_ GE117.out) | exact HB.out))) : w.heap.size ≤ gb123)); have n5_ := Aside0.mk ((by rw [hg]; exact Nat.ne_of_lt (blk_lt (g := gb117) (o := .cells #[.int .i64 ((rd_T42 l1 x14_1).f0), .int .i64 ((rd_T42 l1 x14_1).f1), .string ((rd_T42 l1 x14_1).f2)] 42 (0, 0)) (by (with_reducible repeat (first | refine blk_drewN ?_ _ | refine blk_drew ?_ | refine blk_alloc ?_ _)); exact BK117.out)) : gb117 ≠ gb123)); have n6_ := Aside0.mk ((by rw [hg]; exact Nat.ne_of_gt (blk_lt (g := gb117) (o := .cells #[.int .i64 ((rd_T42 l1 x14_1).f0), .int .i64 ((rd_T42 l1 x14_1).f1), .string ((rd_T42 l1 x14_1).f2)] 42 (0, 0)) (by (with_reducible repeat (first | refine blk_drewN ?_ _ | refine blk_drew ?_ | refine blk_alloc ?_ _)); exact BK117.out)) : gb123 ≠ gb117)); clear BK117; clear HB; have BK117 := n0_; have HB := n1_; have BK123 := n2_; have GW123 := n3_; have GE123 := n4_; have NB117_123 := n5_; have NB123_117 := n6_; clear n0_ n1_ n2_ n3_ n4_ n5_ n6_; clear hb hbox hg; have hnb26 := NB123_117.out; have hnc26 := NB117_123.out; have hcz27_0 : w25.cell? ⟨gb123, 0, none⟩ = some (.int .i64 0) := (blk_cell BK123.out 0).trans rfl; have hcz27_1 : w25.cell? ⟨gb123, 1, none⟩ = some (.int .i64 0) := (blk_cell BK123.out 1).trans rfl; have hcz27_2 : w25.cell? ⟨gb123, 2, none⟩ = some (.string (⟨#[]⟩ : ByteArray)) := (blk_cell BK123.out 2).trans rfl; have hfz27_0 := blk_frozen BK123.out 0; have hfz27_1 := blk_frozen BK123.out 1; have hfz27_2 := blk_frozen BK123.out 2; have hcz28_0 : w25.cell? ⟨gb117, 0, none⟩ = some (.int .i64 ((rd_T42 l1 x14_1).f0)) := (blk_cell BK117.out 0).trans rfl; have hcz28_1 : w25.cell? ⟨gb117, 1, none⟩ = some (.int .i64 ((rd_T42 l1 x14_1).f1)) := (blk_cell BK117.out 1).trans rfl; have hcz28_2 : w25.cell? ⟨gb117, 2, none⟩ = some (.string ((rd_T42 l1 x14_1).f2)) := (blk_cell BK117.out 2).trans rfl; have hfz28_0 := blk_frozen BK117.out 0; have hfz28_1 := blk_frozen BK117.out 1; have hfz28_2 := blk_frozen BK117.out 2))
                                      go_roundg k3
                                      case measure => have := HK1.out; have := HJ6.out; have := HK3.out; omega
                                      case rel => exact ⟨(wrap64 (x14_1 + 1)), (by first | rfl | (simp; done) | (simp [*]; done)), H', ⟨by have := HK1.out; have := HJ6.out; have := HK3.out; omega⟩, ⟨by repeat (first | (with_reducible first | exact HB.out | apply below_alloc | apply pw_below_drewN | apply below_drew1 | refine below_set ?_ GE117.out | refine below_set ?_ GE123.out) | exact HB.out)⟩⟩
                                    · rw [if_neg c24] at H
                                      have c24b0 : decide (((rd_T42 y118 x42_3).f1) < ((rd_T42 l1 x14_1).f0)) = false := decide_eq_false c24
                                      clear c24
                                      obtain rfl := Option.some.inj H
                                      have p122 : 0 ≤ (x42_3 : Int) := of_decide_eq_true (by first | (with_reducible assumption) | assumption)
                                      have q122 : x42_3 < (y118.length : Int) := of_decide_eq_true (by first | (with_reducible assumption) | assumption)
                                      obtain ⟨ad122, e122, hx122_0, hx122_1, hx122_2⟩ := at_T42 HR121.out x42_3 p122 q122
                                      cases e122
                                      replace hx122_0 := (HB.out.cell (World.block_lt_of_cell? w _ hx122_0)).trans hx122_0
                                      replace hx122_1 := (HB.out.cell (World.block_lt_of_cell? w _ hx122_1)).trans hx122_1
                                      replace hx122_2 := (HB.out.cell (World.block_lt_of_cell? w _ hx122_2)).trans hx122_2
                                      replace p122 := eq_true p122
                                      replace q122 := eq_true q122
                                      go_wp2_with (first | ((with_reducible refine gate_dst (N := 8) rfl ?_); refine box_event ?hg (N := 8) ?hd (cs := #[.int .i64 0, .int .i64 0, .string (⟨#[]⟩ : ByteArray)]) (t := 42) ?hr ?_; (case hd => rfl); (case hg => rfl); (case hr => first | (go_simp; done) | (go_simp; rfl)); intro gb123 hg w29 hbox hb; have n0_ := Aside0.mk (blk_below (g := gb117) (o := .cells #[.int .i64 ((rd_T42 l1 x14_1).f0), .int .i64 ((rd_T42 l1 x14_1).f1), .string ((rd_T42 l1 x14_1).f2)] 42 (0, 0)) (by (with_reducible repeat (first | refine blk_drewN ?_ _ | refine blk_drew ?_ | refine blk_alloc ?_ _)); exact BK117.out) hb); have n1_ := Aside0.mk (below_step (by repeat (first | (with_reducible first | exact HB.out | apply below_alloc | apply pw_below_drewN | apply below_drew1 | refine below_set ?_ GE117.out) | exact HB.out)) hb); have n2_ := Aside0.mk (hbox); have n3_ := Aside0.mk ((by rw [hg]; exact (below_size (by repeat (first | (with_reducible first | exact HB.out | apply below_alloc | apply pw_below_drewN | apply below_drew1 | refine below_set ?_ GE117.out) | exact HB.out))) : w.heap.size ≤ gb123)); have n4_ := Aside0.mk ((by rw [hg]; exact (below_size (by repeat (first | (with_reducible first | exact HB.out | apply below_alloc | apply pw_below_drewN | apply below_drew1 | refine below_set ?_ GE117.out) | exact HB.out))) : w.heap.size ≤ gb123)); have n5_ := Aside0.mk ((by rw [hg]; exact Nat.ne_of_lt (blk_lt (g := gb117) (o := .cells #[.int .i64 ((rd_T42 l1 x14_1).f0), .int .i64 ((rd_T42 l1 x14_1).f1), .string ((rd_T42 l1 x14_1).f2)] 42 (0, 0)) (by (with_reducible repeat (first | refine blk_drewN ?_ _ | refine blk_drew ?_ | refine blk_alloc ?_ _)); exact BK117.out)) : gb117 ≠ gb123)); have n6_ := Aside0.mk ((by rw [hg]; exact Nat.ne_of_gt (blk_lt (g := gb117) (o := .cells #[.int .i64 ((rd_T42 l1 x14_1).f0), .int .i64 ((rd_T42 l1 x14_1).f1), .string ((rd_T42 l1 x14_1).f2)] 42 (0, 0)) (by (with_reducible repeat (first | refine blk_drewN ?_ _ | refine blk_drew ?_ | refine blk_alloc ?_ _)); exact BK117.out)) : gb123 ≠ gb117)); clear BK117; clear HB; have BK117 := n0_; have HB := n1_; have BK123 := n2_; have GW123 := n3_; have GE123 := n4_; have NB117_123 := n5_; have NB123_117 := n6_; clear n0_ n1_ n2_ n3_ n4_ n5_ n6_; clear hb hbox hg; have hnb30 := NB123_117.out; have hnc30 := NB117_123.out; have hcz31_0 : w29.cell? ⟨gb123, 0, none⟩ = some (.int .i64 0) := (blk_cell BK123.out 0).trans rfl; have hcz31_1 : w29.cell? ⟨gb123, 1, none⟩ = some (.int .i64 0) := (blk_cell BK123.out 1).trans rfl; have hcz31_2 : w29.cell? ⟨gb123, 2, none⟩ = some (.string (⟨#[]⟩ : ByteArray)) := (blk_cell BK123.out 2).trans rfl; have hfz31_0 := blk_frozen BK123.out 0; have hfz31_1 := blk_frozen BK123.out 1; have hfz31_2 := blk_frozen BK123.out 2; have hcz32_0 : w29.cell? ⟨gb117, 0, none⟩ = some (.int .i64 ((rd_T42 l1 x14_1).f0)) := (blk_cell BK117.out 0).trans rfl; have hcz32_1 : w29.cell? ⟨gb117, 1, none⟩ = some (.int .i64 ((rd_T42 l1 x14_1).f1)) := (blk_cell BK117.out 1).trans rfl; have hcz32_2 : w29.cell? ⟨gb117, 2, none⟩ = some (.string ((rd_T42 l1 x14_1).f2)) := (blk_cell BK117.out 2).trans rfl; have hfz32_0 := blk_frozen BK117.out 0; have hfz32_1 := blk_frozen BK117.out 1; have hfz32_2 := blk_frozen BK117.out 2))
                                      (try rw [Exit.noGoto_ret])
                                      go_ret
                                      exact ⟨by first | rfl | (simp [errW_none, errW_some] <;> rfl) | (simp only [← hji16]; first | rfl | (simp [errW_none, errW_some] <;> rfl)) | (simp [*, errW_none, errW_some] <;> rfl), by repeat (first | (with_reducible first | exact HB.out | apply below_alloc | apply pw_below_drewN | apply below_drew1 | refine below_set ?_ GE117.out | refine below_set ?_ GE123.out) | exact HB.out)⟩
                                  · rw [if_neg c23] at H
                                    exact absurd H (by simp)
                                · rw [if_neg c22] at H
                                  exact absurd H (by simp)
                              · rw [if_neg c21] at H
                                have c21b0 : decide (x42_3 < (y118.length : Int)) = false := decide_eq_false c21
                                clear c21
                                have H' := Aside0.mk H
                                clear H
                                go_wp2
                                repeat (all_goals (go_step3; go_wp2))
                                go_roundg k3
                                case measure => have := HK1.out; have := HJ6.out; have := HK3.out; omega
                                case rel => exact ⟨(wrap64 (x14_1 + 1)), (by first | rfl | (simp; done) | (simp [*]; done)), H', ⟨by have := HK1.out; have := HJ6.out; have := HK3.out; omega⟩, ⟨by repeat (first | (with_reducible first | exact HB.out | apply below_alloc | apply pw_below_drewN | apply below_drew1 | refine below_set ?_ GE117.out) | exact HB.out)⟩⟩
                        · rw [if_neg c19] at H
                          exact absurd H (by simp)
                      · rw [if_neg c18] at H
                        exact absurd H (by simp)
                    · rw [if_neg c17] at H
                      exact absurd H (by simp)
            · rw [if_neg c6] at H
              exact absurd H (by simp)
          · rw [if_neg c5] at H
            exact absurd H (by simp)
        · rw [if_neg c4] at H
          have c4b0 : decide (x14_1 < (l1.length : Int)) = false := decide_eq_false c4
          clear c4
          obtain rfl := Option.some.inj H
          go_wp2
          repeat (all_goals (go_step3; go_wp2))
          (try rw [Exit.noGoto_ret])
          go_ret
          exact ⟨by first | rfl | (simp [errW_none, errW_some] <;> rfl) | (simp [*, errW_none, errW_some] <;> rfl), by repeat (first | (with_reducible first | exact HB.out | apply below_alloc | apply pw_below_drewN | apply below_drew1) | exact HB.out)⟩

end Go.Proofs.Ytaihajmdngoeiaa.F

-- A text of this session's own program (wip/myprint.sh over a changed print tool): functions and their walks
namespace Go.Proofs.Ytaihajmdngoeiaa.F
open Go.RowKit Go.Proofs.YtaihajmdngoeiaaW.PrintWords Go.Proofs.YtaihajmdngoeiaaW.PrintLast Go.Proofs.YtaihajmdngoeiaaW.PrintMore
attribute [local go_sem] max2_int min2_int max_two min_two max_three min_three max_four min_four   -- for this text's walks alone
set_option linter.unusedVariables false
set_option linter.unusedSimpArgs false

/-! ### edits_Valid: function 16 -/
def edits_Valid.f (k : Nat) (a0 : Int) (l1 : List (S42)) : Option (Int) := if a0 < 0 then (some 1) else (if a0 > 4611686018427387904 then (some 1) else ((edits_valid.f k a0 l1).bind fun t124 => (some t124)))
set_option maxHeartbeats 8000000 in
set_option maxRecDepth 100000 in
theorem edits_Valid.calls (k : Nat) (a0 : Int) (A1 : Option Addr) (c1 : Nat) (l1 : List (S42)) (r : Int) (w : World) (hr1 : Kd.C k42 w A1 l1.length l1) (hc1 : l1.length ≤ c1) (h : edits_Valid.f k a0 l1 = some r) :
    Calls Try.prog 16 #[.int .i64 a0, .slice A1 l1.length c1] w fun e w' => e = .returned (.int .i64 r) ∧ Below w.heap.size w w' := by
  have HR1 := Aside0.mk hr1
  have HC1 := Aside0.mk hc1
  clear hr1 hc1
  have HB := Aside0.mk (Below.refl w.heap.size w)
  have H : (if a0 < 0 then (some 1) else (if a0 > 4611686018427387904 then (some 1) else ((edits_valid.f k a0 l1).bind fun t124 => (some t124)))) = some r := h
  clear h
  by_cases c3 : a0 < 0
  · rw [if_pos c3] at H
    have c3b0 : decide (a0 < 0) = true := decide_eq_true c3
    clear c3
    obtain rfl := Option.some.inj H
    go_enter Try.func16, Try.ntmps16
    go_wp2
    go_ret
    exact ⟨by first | rfl | (simp [errW_none, errW_some] <;> rfl) | (simp [*, errW_none, errW_some] <;> rfl), by repeat (first | (with_reducible first | exact HB.out | apply below_alloc | apply pw_below_drewN | apply below_drew1) | exact HB.out)⟩
  · rw [if_neg c3] at H
    have c3b0 : decide (a0 < 0) = false := decide_eq_false c3
    clear c3
    by_cases c4 : a0 > 4611686018427387904
    · rw [if_pos c4] at H
      have c4b0 : decide (4611686018427387904 < a0) = true := decide_eq_true c4
      clear c4
      obtain rfl := Option.some.inj H
      go_enter Try.func16, Try.ntmps16
      go_wp2
      go_ret
      exact ⟨by first | rfl | (simp [errW_none, errW_some] <;> rfl) | (simp [*, errW_none, errW_some] <;> rfl), by repeat (first | (with_reducible first | exact HB.out | apply below_alloc | apply pw_below_drewN | apply below_drew1) | exact HB.out)⟩
    · rw [if_neg c4] at H
      have c4b0 : decide (4611686018427387904 < a0) = false := decide_eq_false c4
      clear c4
      replace H := Option.bind_eq_some_iff.mp H
      obtain ⟨t124, A50, H⟩ := H
      replace H : (some t124) = some r := H
      have A5 := Aside0.mk A50
      clear A50
      obtain rfl := Option.some.inj H
      go_enter Try.func16, Try.ntmps16
      go_wp2_with (first | ((with_reducible refine gate_callee (f := 32) rfl ?_); refine goesL_ (some 13) rfl rfl Try.func32 (by kernel_rfl) rfl #[.int .i64 a0, .slice A1 l1.length c1] rfl (by (try simp only [List.map_toArray, List.map_cons, List.map_nil]); first | done | rfl | (simp only [List.length_drop, List.length_take]; rfl)) ?_; (with_reducible refine (edits_valid.calls k a0 _ _ l1 t124 _ ?side1 ?side2 A5.out).mono ?_); (case side1 => repeat (first | exact HR1.out | (with_reducible refine Kd.C_alloc ?_ _) | (with_reducible refine Kd.C_drewN ?_ _) | (with_reducible refine Kd.C_drew ?_))); (case side2 => exact HC1.out); rintro e w6 ⟨rfl, hb⟩; refine ⟨_, rfl, ?_⟩; have n0_ := Aside0.mk (below_step (by repeat (first | (with_reducible first | exact HB.out | apply below_alloc | apply pw_below_drewN | apply below_drew1) | exact HB.out)) hb); clear HB; have HB := n0_; clear n0_; (try clear hb); (try clear hb2); (try clear hk); (try clear hi)))
      go_ret
      exact ⟨by first | rfl | (simp [errW_none, errW_some] <;> rfl) | (simp [*, errW_none, errW_some] <;> rfl), by repeat (first | (with_reducible first | exact HB.out | apply below_alloc | apply pw_below_drewN | apply below_drew1) | exact HB.out)⟩

end Go.Proofs.Ytaihajmdngoeiaa.F

-- A text of this session's own program (wip/myprint.sh over a changed print tool): functions and their walks
namespace Go.Proofs.Ytaihajmdngoeiaa.F
open Go.RowKit Go.Proofs.YtaihajmdngoeiaaW.PrintWords Go.Proofs.YtaihajmdngoeiaaW.PrintLast Go.Proofs.YtaihajmdngoeiaaW.PrintMore
attribute [local go_sem] max2_int min2_int max_two min_two max_three min_three max_four min_four   -- for this text's walks alone
set_option linter.unusedVariables false
set_option linter.unusedSimpArgs false

theorem eqA42 (d : Nat) (w : World) (x0 y0 : Int) (x1 y1 : Int) (x2 y2 : ByteArray) :
    (Op.equalIn (d + 2) 42 (.agg #[.int .i64 x0, .int .i64 x1, .string x2]) (.agg #[.int .i64 y0, .int .i64 y1, .string y2])).run Try.prog w = .ok (x0 == y0 && (x1 == y1 && (x2.toList == y2.toList))) w := by
  refine eqA_of Try.underlying42 (by kernel_rfl) ?_
  refine eqf_cons (by rfl) (by go_simp; rfl) (by go_simp; rfl) (by go_simp) ?_
  refine eqf_cons (by rfl) (by go_simp; rfl) (by go_simp; rfl) (by go_simp) ?_
  exact eqf_last (by rfl) (by go_simp; rfl) (by go_simp; rfl) (by go_simp)
end Go.Proofs.Ytaihajmdngoeiaa.F

-- A text of this session's own program (wip/myprint.sh over a changed print tool): functions and their walks
namespace Go.Proofs.Ytaihajmdngoeiaa.F
open Go.RowKit Go.Proofs.YtaihajmdngoeiaaW.PrintWords Go.Proofs.YtaihajmdngoeiaaW.PrintLast Go.Proofs.YtaihajmdngoeiaaW.PrintMore
attribute [local go_sem] max2_int min2_int max_two min_two max_three min_three max_four min_four   -- for this text's walks alone
set_option linter.unusedVariables false
set_option linter.unusedSimpArgs false

attribute [local go_sem high] eqA42
/-! ### monikerplain_SameEdits: function 21 -/
def monikerplain_SameEdits.l0 : Nat → List (S42) → List (S42) → Int → Int → Option (Bool)
  | 0, _, _, _, _ => none
  | k + 1, x0, x1, x12, x13 => if x13 < x12 then (if 0 ≤ x13 then (if x13 < (x0.length : Int) then (if x13 < (x1.length : Int) then (if (!(((rd_T42 x0 x13).f0) == ((rd_T42 x1 x13).f0)) || (!(((rd_T42 x0 x13).f1) == ((rd_T42 x1 x13).f1)) || (!((((rd_T42 x0 x13).f2).toList) == (((rd_T42 x1 x13).f2).toList))))) = true then (some false) else (monikerplain_SameEdits.l0 k x0 x1 x12 (wrap64 (x13 + 1)))) else (none)) else (none)) else (none)) else (some true)
def monikerplain_SameEdits.f (k : Nat) (l0 : List (S42)) (l1 : List (S42)) : Option (Bool) := if (l0.length : Int) = (l1.length : Int) then (monikerplain_SameEdits.l0 k l0 l1 (l0.length : Int) 0) else (some false)
set_option maxHeartbeats 8000000 in
set_option maxRecDepth 100000 in
theorem monikerplain_SameEdits.calls (k : Nat) (A0 : Option Addr) (c0 : Nat) (l0 : List (S42)) (A1 : Option Addr) (c1 : Nat) (l1 : List (S42)) (r : Bool) (w : World) (hr0 : Kd.C k42 w A0 l0.length l0) (hc0 : l0.length ≤ c0) (hr1 : Kd.C k42 w A1 l1.length l1) (hc1 : l1.length ≤ c1) (h : monikerplain_SameEdits.f k l0 l1 = some r) :
    Calls Try.prog 21 #[.slice A0 l0.length c0, .slice A1 l1.length c1] w fun e w' => e = .returned (.bool r) ∧ Drawn0 w w' := by
  have hu42 := Try.underlying42
  have HR0 := Aside0.mk hr0
  have HC0 := Aside0.mk hc0
  clear hr0 hc0
  have HR1 := Aside0.mk hr1
  have HC1 := Aside0.mk hc1
  clear hr1 hc1
  have H : (if (l0.length : Int) = (l1.length : Int) then (monikerplain_SameEdits.l0 k l0 l1 (l0.length : Int) 0) else (some false)) = some r := h
  clear h
  by_cases c3 : (l0.length : Int) = (l1.length : Int)
  · rw [if_pos c3] at H
    have c3b0 : ((l0.length : Int) == (l1.length : Int)) = true := beq_iff_eq.mpr c3
    have c3b1 : ((l0.length : Int) != (l1.length : Int)) = false := bne_eq_false_iff_eq.mpr c3
    have c3b2 : (l0.length == l1.length) = true := by first | simpa using c3 | (simp at c3 ⊢; omega)
    clear c3
    have H' := Aside0.mk H
    clear H
    go_enter Try.func21, Try.ntmps21
    go_wp2
    repeat (go_quiet (fail); try go_wp2)
    go_loopg [13] k (fun kq v13 w' => ∃ (x13_1 : Int), v13 = .int .i64 x13_1 ∧ Aside0 (monikerplain_SameEdits.l0 kq l0 l1 (l0.length : Int) x13_1 = some r) ∧ Aside0 (kq ≤ k) ∧ Drawn0 w w')
    case atStart => exact ⟨(0), (by first | rfl | (simp; done) | (simp [*]; done)), H', ⟨Nat.le_refl _⟩, by repeat (first | exact Drawn0.refl _ | apply Drawn0.step)⟩
    case round =>
      clear H'
      try clear c1
      try clear c2
      try clear p2
      try clear c3
      try clear c3b0
      try clear c3b1
      try clear c3b2
      obtain ⟨x13_1, rfl, HA, HK1, ⟨m1, rfl⟩⟩ := hrel
      cases gk with
      | zero => exact absurd HA.out (by simp [monikerplain_SameEdits.l0])
      | succ k1 =>
        have H := HA.out
        clear HA
        simp only [monikerplain_SameEdits.l0] at H
        by_cases c4 : x13_1 < (l0.length : Int)
        · rw [if_pos c4] at H
          have c4b0 : decide (x13_1 < (l0.length : Int)) = true := decide_eq_true c4
          clear c4
          by_cases c5 : 0 ≤ x13_1
          · rw [if_pos c5] at H
            have c5b0 : decide (0 ≤ x13_1) = true := decide_eq_true c5
            clear c5
            by_cases c6 : x13_1 < (l0.length : Int)
            · rw [if_pos c6] at H
              have c6b0 : decide (x13_1 < (l0.length : Int)) = true := decide_eq_true c6
              clear c6
              by_cases c7 : x13_1 < (l1.length : Int)
              · rw [if_pos c7] at H
                have c7b0 : decide (x13_1 < (l1.length : Int)) = true := decide_eq_true c7
                clear c7
                by_cases c8 : (!(((rd_T42 l0 x13_1).f0) == ((rd_T42 l1 x13_1).f0)) || (!(((rd_T42 l0 x13_1).f1) == ((rd_T42 l1 x13_1).f1)) || (!((((rd_T42 l0 x13_1).f2).toList) == (((rd_T42 l1 x13_1).f2).toList))))) = true
                · rw [if_pos c8] at H
                  have c8b0 : (!(((rd_T42 l0 x13_1).f0) == ((rd_T42 l1 x13_1).f0)) || (!(((rd_T42 l0 x13_1).f1) == ((rd_T42 l1 x13_1).f1)) || (!((((rd_T42 l0 x13_1).f2).toList) == (((rd_T42 l1 x13_1).f2).toList))))) = true := c8
                  clear c8
                  obtain rfl := Option.some.inj H
                  have p129 : 0 ≤ (x13_1 : Int) := of_decide_eq_true (by first | (with_reducible assumption) | assumption)
                  have q129 : x13_1 < (l0.length : Int) := of_decide_eq_true (by first | (with_reducible assumption) | assumption)
                  obtain ⟨ad129, e129, hx129_0, hx129_1, hx129_2⟩ := at_T42 HR0.out x13_1 p129 q129
                  cases e129
                  replace p129 := eq_true p129
                  replace q129 := eq_true q129
                  have p130 : 0 ≤ (x13_1 : Int) := of_decide_eq_true (by first | (with_reducible assumption) | assumption)
                  have q130 : x13_1 < (l1.length : Int) := of_decide_eq_true (by first | (with_reducible assumption) | assumption)
                  obtain ⟨ad130, e130, hx130_0, hx130_1, hx130_2⟩ := at_T42 HR1.out x13_1 p130 q130
                  cases e130
                  replace p130 := eq_true p130
                  replace q130 := eq_true q130
                  go_wp2
                  repeat (go_quiet (fail); try go_wp2)
                  go_ret
                  exact ⟨by first | rfl | (simp; done) | (simp [*]; done), by repeat (first | exact Drawn0.refl _ | apply Drawn0.step)⟩
                · rw [if_neg c8] at H
                  have c8b0 : (!(((rd_T42 l0 x13_1).f0) == ((rd_T42 l1 x13_1).f0)) || (!(((rd_T42 l0 x13_1).f1) == ((rd_T42 l1 x13_1).f1)) || (!((((rd_T42 l0 x13_1).f2).toList) == (((rd_T42 l1 x13_1).f2).toList))))) = false := by simpa using c8
                  clear c8
                  have H' := Aside0.mk H
                  clear H
                  have p129 : 0 ≤ (x13_1 : Int) := of_decide_eq_true (by first | (with_reducible assumption) | assumption)
                  have q129 : x13_1 < (l0.length : Int) := of_decide_eq_true (by first | (with_reducible assumption) | assumption)
                  obtain ⟨ad129, e129, hx129_0, hx129_1, hx129_2⟩ := at_T42 HR0.out x13_1 p129 q129
                  cases e129
                  replace p129 := eq_true p129
                  replace q129 := eq_true q129
                  have p130 : 0 ≤ (x13_1 : Int) := of_decide_eq_true (by first | (with_reducible assumption) | assumption)
                  have q130 : x13_1 < (l1.length : Int) := of_decide_eq_true (by first | (with_reducible assumption) | assumption)
                  obtain ⟨ad130, e130, hx130_0, hx130_1, hx130_2⟩ := at_T42 HR1.out x13_1 p130 q130
                  cases e130
                  replace p130 := eq_true p130
                  replace q130 := eq_true q130
                  go_wp2
                  repeat (go_quiet (fail); try go_wp2)
                  go_roundg k1
                  case measure => have := HK1.out; omega
                  case rel => exact ⟨(wrap64 (x13_1 + 1)), (by first | rfl | (simp; done) | (simp [*]; done)), H', ⟨by have := HK1.out; omega⟩, by repeat (first | exact Drawn0.refl _ | apply Drawn0.step)⟩
              · rw [if_neg c7] at H
                exact absurd H (by simp)
            · rw [if_neg c6] at H
              exact absurd H (by simp)
          · rw [if_neg c5] at H
            exact absurd H (by simp)
        · rw [if_neg c4] at H
          have c4b0 : decide (x13_1 < (l0.length : Int)) = false := decide_eq_false c4
          clear c4
          obtain rfl := Option.some.inj H
          go_wp2
          repeat (go_quiet (fail); try go_wp2)
          go_ret
          exact ⟨by first | rfl | (simp; done) | (simp [*]; done), by repeat (first | exact Drawn0.refl _ | apply Drawn0.step)⟩
  · rw [if_neg c3] at H
    have c3b0 : ((l0.length : Int) == (l1.length : Int)) = false := beq_eq_false_iff_ne.mpr c3
    have c3b1 : ((l0.length : Int) != (l1.length : Int)) = true := bne_iff_ne.mpr c3
    have c3b2 : (l0.length == l1.length) = false := by first | simpa using c3 | (simp at c3 ⊢; omega)
    obtain rfl := Option.some.inj H
    go_enter Try.func21, Try.ntmps21
    go_wp2
    repeat (go_quiet (fail); try go_wp2)
    go_ret
    exact ⟨by first | rfl | (simp; done) | (simp [*]; done), by repeat (first | exact Drawn0.refl _ | apply Drawn0.step)⟩

end Go.Proofs.Ytaihajmdngoeiaa.F

-- A text of this session's own program (wip/myprint.sh over a changed print tool): functions and their walks
namespace Go.Proofs.Ytaihajmdngoeiaa.F
open Go.RowKit Go.Proofs.YtaihajmdngoeiaaW.PrintWords Go.Proofs.YtaihajmdngoeiaaW.PrintLast Go.Proofs.YtaihajmdngoeiaaW.PrintMore
attribute [local go_sem] max2_int min2_int max_two min_two max_three min_three max_four min_four   -- for this text's walks alone
set_option linter.unusedVariables false
set_option linter.unusedSimpArgs false

/-! ### edits_grows: function 34 -/
def edits_grows.f (a0_0 : Int) (a0_1 : Int) (a0_2 : ByteArray) : Option (Int) := some (wrap64 ((a0_2.size : Int) - (wrap64 (a0_1 - a0_0))))
set_option maxHeartbeats 8000000 in
set_option maxRecDepth 100000 in
theorem edits_grows.calls (a0_0 : Int) (a0_1 : Int) (a0_2 : ByteArray) (r : Int) (w : World) (h : edits_grows.f a0_0 a0_1 a0_2 = some r) :
    Calls Try.prog 34 #[.agg #[.int .i64 a0_0, .int .i64 a0_1, .string a0_2]] w fun e w' => e = .returned (.int .i64 r) ∧ Below w.heap.size w w' := by
  have hu42 := Try.underlying42
  have HB := Aside0.mk (Below.refl w.heap.size w)
  have H : (some (wrap64 ((a0_2.size : Int) - (wrap64 (a0_1 - a0_0))))) = some r := h
  clear h
  obtain rfl := Option.some.inj H
  go_enter Try.func34, Try.ntmps34
  go_wp2_with (first | ((with_reducible refine gate_dst (N := 1) rfl ?_); refine box_event ?hg (N := 1) ?hd (cs := #[.int .i64 a0_0, .int .i64 a0_1, .string a0_2]) (t := 42) ?hr ?_; (case hd => rfl); (case hg => rfl); (case hr => first | (go_simp; done) | (go_simp; rfl)); intro gb145 hg w2 hbox hb; have n0_ := Aside0.mk (below_step (by repeat (first | (with_reducible first | exact HB.out | apply below_alloc | apply pw_below_drewN | apply below_drew1) | exact HB.out)) hb); have n1_ := Aside0.mk (hbox); have n2_ := Aside0.mk ((by rw [hg]; exact (below_size (by repeat (first | (with_reducible first | exact HB.out | apply below_alloc | apply pw_below_drewN | apply below_drew1) | exact HB.out))) : w.heap.size ≤ gb145)); have n3_ := Aside0.mk ((by rw [hg]; exact (below_size (by repeat (first | (with_reducible first | exact HB.out | apply below_alloc | apply pw_below_drewN | apply below_drew1) | exact HB.out))) : w.heap.size ≤ gb145)); clear HB; have HB := n0_; have BK145 := n1_; have GW145 := n2_; have GE145 := n3_; clear n0_ n1_ n2_ n3_; clear hb hbox hg; have hcz3_0 : w2.cell? ⟨gb145, 0, none⟩ = some (.int .i64 a0_0) := (blk_cell BK145.out 0).trans rfl; have hcz3_1 : w2.cell? ⟨gb145, 1, none⟩ = some (.int .i64 a0_1) := (blk_cell BK145.out 1).trans rfl; have hcz3_2 : w2.cell? ⟨gb145, 2, none⟩ = some (.string a0_2) := (blk_cell BK145.out 2).trans rfl; have hfz3_0 := blk_frozen BK145.out 0; have hfz3_1 := blk_frozen BK145.out 1; have hfz3_2 := blk_frozen BK145.out 2))
  go_ret
  exact ⟨by first | rfl | (simp [errW_none, errW_some] <;> rfl) | (simp [*, errW_none, errW_some] <;> rfl), by repeat (first | (with_reducible first | exact HB.out | apply below_alloc | apply pw_below_drewN | apply below_drew1 | refine below_set ?_ GE145.out) | exact HB.out)⟩

end Go.Proofs.Ytaihajmdngoeiaa.F

-- A text of this session's own program (wip/myprint.sh over a changed print tool): functions and their walks
namespace Go.Proofs.Ytaihajmdngoeiaa.F
open Go.RowKit Go.Proofs.YtaihajmdngoeiaaW.PrintWords Go.Proofs.YtaihajmdngoeiaaW.PrintLast Go.Proofs.YtaihajmdngoeiaaW.PrintMore
attribute [local go_sem] max2_int min2_int max_two min_two max_three min_three max_four min_four   -- for this text's walks alone
set_option linter.unusedVariables false
set_option linter.unusedSimpArgs false

/-! ### edits_Shift: function 22 -/
mutual
def edits_Shift.j0 : Nat → List (S42) → Int → Bool → Option (Int × Bool)
  | 0, _, _, _ => none
  | k + 1, x0, x1, x19 => if x19 = true then (some (0, false)) else (edits_Shift.l0 k x1 x1 x0 (x0.length : Int) 0)
def edits_Shift.l0 : Nat → Int → Int → List (S42) → Int → Int → Option (Int × Bool)
  | 0, _, _, _, _, _ => none
  | k + 1, x1, x6, x21, x22, x23 => if x23 < x22 then (if 0 ≤ x23 then (if x23 < (x21.length : Int) then (if ((rd_T42 x21 x23).f1) > x1 then (if ((rd_T42 x21 x23).f0) < x1 then (some (0, false)) else (some (x6, true))) else ((edits_grows.f ((rd_T42 x21 x23).f0) ((rd_T42 x21 x23).f1) ((rd_T42 x21 x23).f2)).bind fun t263 => (edits_Shift.l0 k x1 (wrap64 (x6 + t263)) x21 x22 (wrap64 (x23 + 1))))) else (none)) else (none)) else (some (x6, true))
end
def edits_Shift.f (k : Nat) (l0 : List (S42)) (a1 : Int) : Option (Int × Bool) := if a1 < 0 then (edits_Shift.j0 k l0 a1 true) else (if a1 > 4611686018427387904 then (edits_Shift.j0 k l0 a1 true) else ((edits_valid.f k 4611686018427387904 l0).bind fun t260 => (edits_Shift.j0 k l0 a1 (t260 != 0))))
set_option maxHeartbeats 8000000 in
set_option maxRecDepth 100000 in
theorem edits_Shift.calls (k : Nat) (A0 : Option Addr) (c0 : Nat) (l0 : List (S42)) (a1 : Int) (r1 : Int) (r2 : Bool) (w : World) (hr0 : Kd.C k42 w A0 l0.length l0) (hc0 : l0.length ≤ c0) (h : edits_Shift.f k l0 a1 = some (r1, r2)) :
    Calls Try.prog 22 #[.slice A0 l0.length c0, .int .i64 a1] w fun e w' => e = .returned (.tuple #[.int .i64 r1, .bool r2]) ∧ Below w.heap.size w w' := by
  have hu42 := Try.underlying42
  have HR0 := Aside0.mk hr0
  have HC0 := Aside0.mk hc0
  clear hr0 hc0
  have HB := Aside0.mk (Below.refl w.heap.size w)
  have H : (if a1 < 0 then (edits_Shift.j0 k l0 a1 true) else (if a1 > 4611686018427387904 then (edits_Shift.j0 k l0 a1 true) else ((edits_valid.f k 4611686018427387904 l0).bind fun t260 => (edits_Shift.j0 k l0 a1 (t260 != 0))))) = some (r1, r2) := h
  clear h
  have HC3 := Aside0.mk H
  clear H
  go_enter Try.func22, Try.ntmps22
  go_upto_region 1 with (fail)
  go_cut [19] (fun v19 wc => ∃ (kq : Nat) (x19_2 : Bool), v19 = .bool x19_2 ∧ Aside0 (edits_Shift.j0 kq l0 a1 x19_2 = some (r1, r2)) ∧ Aside0 (kq ≤ k) ∧ Aside0 (Below w.heap.size w wc))
  case first =>
    have H := HC3.out
    clear HC3
    by_cases c4 : a1 < 0
    · rw [if_pos c4] at H
      have c4b0 : decide (a1 < 0) = true := decide_eq_true c4
      clear c4
      (first | rw [c4b0] | (simp only [i64_w, i32_w]; rw [c4b0]) | skip)
      have H' := Aside0.mk H
      clear H
      go_wp2
      go_meet
      case rel => exact ⟨_, (true), (by first | rfl | (simp; done) | (simp [*]; done)), H', ⟨by first | omega | exact Nat.le_refl _⟩, ⟨by repeat (first | (with_reducible first | exact HB.out | apply below_alloc | apply pw_below_drewN | apply below_drew1) | exact HB.out)⟩⟩
    · rw [if_neg c4] at H
      have c4b0 : decide (a1 < 0) = false := decide_eq_false c4
      clear c4
      (first | rw [c4b0] | (simp only [i64_w, i32_w]; rw [c4b0]) | skip)
      by_cases c5 : a1 > 4611686018427387904
      · rw [if_pos c5] at H
        have c5b0 : decide (4611686018427387904 < a1) = true := decide_eq_true c5
        clear c5
        have H' := Aside0.mk H
        clear H
        go_wp2
        go_meet
        case rel => exact ⟨_, (true), (by first | rfl | (simp; done) | (simp [*]; done)), H', ⟨by first | omega | exact Nat.le_refl _⟩, ⟨by repeat (first | (with_reducible first | exact HB.out | apply below_alloc | apply pw_below_drewN | apply below_drew1) | exact HB.out)⟩⟩
      · rw [if_neg c5] at H
        have c5b0 : decide (4611686018427387904 < a1) = false := decide_eq_false c5
        clear c5
        replace H := Option.bind_eq_some_iff.mp H
        obtain ⟨t260, A60, H⟩ := H
        replace H : (edits_Shift.j0 k l0 a1 (t260 != 0)) = some (r1, r2) := H
        have A6 := Aside0.mk A60
        clear A60
        have H' := Aside0.mk H
        clear H
        go_wp2_with (first | (go_at_call 32; (with_reducible refine (edits_valid.calls k 4611686018427387904 _ _ l0 t260 _ ?side1 ?side2 A6.out).mono ?_); (case side1 => repeat (first | exact (Kd.C_below HR0.out HB.out) | (with_reducible refine Kd.C_alloc ?_ _) | (with_reducible refine Kd.C_drewN ?_ _) | (with_reducible refine Kd.C_drew ?_))); (case side2 => exact HC0.out); rintro e w7 ⟨rfl, hb⟩; have n0_ := Aside0.mk (below_step (by repeat (first | (with_reducible first | exact HB.out | apply below_alloc | apply pw_below_drewN | apply below_drew1) | exact HB.out)) hb); clear HB; have HB := n0_; clear n0_; (try clear hb); (try clear hb2); (try clear hk); (try clear hi)))
        go_meet
        case rel => exact ⟨_, ((t260 != 0)), (by first | rfl | (simp; done) | (simp [*]; done)), H', ⟨by first | omega | exact Nat.le_refl _⟩, ⟨by repeat (first | (with_reducible first | exact HB.out | apply below_alloc | apply pw_below_drewN | apply below_drew1) | exact HB.out)⟩⟩
  case rest =>
    clear HC3
    try clear c2
    try clear p2
    try clear c4
    try clear c4b0
    try clear c5
    try clear c5b0
    obtain ⟨kq, x19_2, rfl, HA, HJ2, HB⟩ := hcut
    cases kq with
    | zero => exact absurd HA.out (by simp [edits_Shift.j0])
    | succ kj2 =>
      have H := HA.out
      clear HA
      simp only [edits_Shift.j0] at H
      by_cases c8 : x19_2 = true
      · subst c8
        have H1 : (some (0, false)) = some (r1, r2) := by rw [if_pos rfl] at H; exact H
        clear H
        have H := H1
        clear H1
        simp only [Option.some.injEq, Prod.mk.injEq] at H
        obtain ⟨rfl, rfl⟩ := H
        go_wp2
        go_ret2
        exact ⟨by first | rfl | (simp [errW_none, errW_some] <;> rfl) | (simp [*, errW_none, errW_some] <;> rfl), by repeat (first | (with_reducible first | exact HB.out | apply below_alloc | apply pw_below_drewN | apply below_drew1) | exact HB.out)⟩
      · replace c8 := Bool.eq_false_iff.mpr c8
        subst c8
        have H1 : (edits_Shift.l0 kj2 a1 a1 l0 (l0.length : Int) 0) = some (r1, r2) := by rw [if_neg (show ¬ (false = true) by decide)] at H; exact H
        clear H
        have H := H1
        clear H1
        have H' := Aside0.mk H
        clear H
        go_wp2
        go_loopg [6, 23] kj2 (fun kq v6 v23 w' => ∃ (x6_2 : Int) (x23_2 : Int), v6 = .int .i64 x6_2 ∧ v23 = .int .i64 x23_2 ∧ Aside0 (edits_Shift.l0 kq a1 x6_2 l0 (l0.length : Int) x23_2 = some (r1, r2)) ∧ Aside0 (kq ≤ kj2) ∧ Aside0 (Below w.heap.size w w'))
        case atStart => exact ⟨(a1), (0), (by first | rfl | (simp; done) | (simp [*]; done)), (by first | rfl | (simp; done) | (simp [*]; done)), H', ⟨Nat.le_refl _⟩, ⟨by repeat (first | (with_reducible first | exact HB.out | apply below_alloc | apply pw_below_drewN | apply below_drew1) | exact HB.out)⟩⟩
        case round =>
          clear H'
          try clear c2
          try clear p2
          try clear c4
          try clear c4b0
          try clear c5
          try clear c5b0
          try clear c8
          try clear p2
          obtain ⟨x6_2, x23_2, rfl, rfl, HA, HK2, HB⟩ := hrel
          cases gk with
          | zero => exact absurd HA.out (by simp [edits_Shift.l0])
          | succ k2 =>
            have H := HA.out
            clear HA
            simp only [edits_Shift.l0] at H
            by_cases c9 : x23_2 < (l0.length : Int)
            · rw [if_pos c9] at H
              have c9b0 : decide (x23_2 < (l0.length : Int)) = true := decide_eq_true c9
              clear c9
              by_cases c10 : 0 ≤ x23_2
              · rw [if_pos c10] at H
                have c10b0 : decide (0 ≤ x23_2) = true := decide_eq_true c10
                clear c10
                by_cases c11 : x23_2 < (l0.length : Int)
                · rw [if_pos c11] at H
                  have c11b0 : decide (x23_2 < (l0.length : Int)) = true := decide_eq_true c11
                  clear c11
                  by_cases c12 : ((rd_T42 l0 x23_2).f1) > a1
                  · rw [if_pos c12] at H
                    have c12b0 : decide (a1 < ((rd_T42 l0 x23_2).f1)) = true := decide_eq_true c12
                    clear c12
                    by_cases c13 : ((rd_T42 l0 x23_2).f0) < a1
                    · rw [if_pos c13] at H
                      have c13b0 : decide (((rd_T42 l0 x23_2).f0) < a1) = true := decide_eq_true c13
                      clear c13
                      simp only [Option.some.injEq, Prod.mk.injEq] at H
                      obtain ⟨rfl, rfl⟩ := H
                      have p261 : 0 ≤ (x23_2 : Int) := of_decide_eq_true (by first | (with_reducible assumption) | assumption)
                      have q261 : x23_2 < (l0.length : Int) := of_decide_eq_true (by first | (with_reducible assumption) | assumption)
                      obtain ⟨ad261, e261, hx261_0, hx261_1, hx261_2⟩ := at_T42 HR0.out x23_2 p261 q261
                      cases e261
                      replace hx261_0 := (HB.out.cell (World.block_lt_of_cell? w _ hx261_0)).trans hx261_0
                      replace hx261_1 := (HB.out.cell (World.block_lt_of_cell? w _ hx261_1)).trans hx261_1
                      replace hx261_2 := (HB.out.cell (World.block_lt_of_cell? w _ hx261_2)).trans hx261_2
                      replace p261 := eq_true p261
                      replace q261 := eq_true q261
                      go_wp2_with (first | ((with_reducible refine gate_dst (N := 8) rfl ?_); refine box_event ?hg (N := 8) ?hd (cs := #[.int .i64 0, .int .i64 0, .string (⟨#[]⟩ : ByteArray)]) (t := 42) ?hr ?_; (case hd => rfl); (case hg => rfl); (case hr => first | (go_simp; done) | (go_simp; rfl)); intro gb262 hg w14 hbox hb; have n0_ := Aside0.mk (below_step (by repeat (first | (with_reducible first | exact HB.out | apply below_alloc | apply pw_below_drewN | apply below_drew1) | exact HB.out)) hb); have n1_ := Aside0.mk (hbox); have n2_ := Aside0.mk ((by rw [hg]; exact (below_size (by repeat (first | (with_reducible first | exact HB.out | apply below_alloc | apply pw_below_drewN | apply below_drew1) | exact HB.out))) : w.heap.size ≤ gb262)); have n3_ := Aside0.mk ((by rw [hg]; exact (below_size (by repeat (first | (with_reducible first | exact HB.out | apply below_alloc | apply pw_below_drewN | apply below_drew1) | exact HB.out))) : w.heap.size ≤ gb262)); clear HB; have HB := n0_; have BK262 := n1_; have GW262 := n2_; have GE262 := n3_; clear n0_ n1_ n2_ n3_; clear hb hbox hg; have hcz15_0 : w14.cell? ⟨gb262, 0, none⟩ = some (.int .i64 0) := (blk_cell BK262.out 0).trans rfl; have hcz15_1 : w14.cell? ⟨gb262, 1, none⟩ = some (.int .i64 0) := (blk_cell BK262.out 1).trans rfl; have hcz15_2 : w14.cell? ⟨gb262, 2, none⟩ = some (.string (⟨#[]⟩ : ByteArray)) := (blk_cell BK262.out 2).trans rfl; have hfz15_0 := blk_frozen BK262.out 0; have hfz15_1 := blk_frozen BK262.out 1; have hfz15_2 := blk_frozen BK262.out 2))
                      go_ret2
                      exact ⟨by first | rfl | (simp [errW_none, errW_some] <;> rfl) | (simp [*, errW_none, errW_some] <;> rfl), by repeat (first | (with_reducible first | exact HB.out | apply below_alloc | apply pw_below_drewN | apply below_drew1 | refine below_set ?_ GE262.out) | exact HB.out)⟩
                    · rw [if_neg c13] at H
                      have c13b0 : decide (((rd_T42 l0 x23_2).f0) < a1) = false := decide_eq_false c13
                      clear c13
                      simp only [Option.some.injEq, Prod.mk.injEq] at H
                      obtain ⟨rfl, rfl⟩ := H
                      have p261 : 0 ≤ (x23_2 : Int) := of_decide_eq_true (by first | (with_reducible assumption) | assumption)
                      have q261 : x23_2 < (l0.length : Int) := of_decide_eq_true (by first | (with_reducible assumption) | assumption)
                      obtain ⟨ad261, e261, hx261_0, hx261_1, hx261_2⟩ := at_T42 HR0.out x23_2 p261 q261
                      cases e261
                      replace hx261_0 := (HB.out.cell (World.block_lt_of_cell? w _ hx261_0)).trans hx261_0
                      replace hx261_1 := (HB.out.cell (World.block_lt_of_cell? w _ hx261_1)).trans hx261_1
                      replace hx261_2 := (HB.out.cell (World.block_lt_of_cell? w _ hx261_2)).trans hx261_2
                      replace p261 := eq_true p261
                      replace q261 := eq_true q261
                      go_wp2_with (first | ((with_reducible refine gate_dst (N := 8) rfl ?_); refine box_event ?hg (N := 8) ?hd (cs := #[.int .i64 0, .int .i64 0, .string (⟨#[]⟩ : ByteArray)]) (t := 42) ?hr ?_; (case hd => rfl); (case hg => rfl); (case hr => first | (go_simp; done) | (go_simp; rfl)); intro gb262 hg w16 hbox hb; have n0_ := Aside0.mk (below_step (by repeat (first | (with_reducible first | exact HB.out | apply below_alloc | apply pw_below_drewN | apply below_drew1) | exact HB.out)) hb); have n1_ := Aside0.mk (hbox); have n2_ := Aside0.mk ((by rw [hg]; exact (below_size (by repeat (first | (with_reducible first | exact HB.out | apply below_alloc | apply pw_below_drewN | apply below_drew1) | exact HB.out))) : w.heap.size ≤ gb262)); have n3_ := Aside0.mk ((by rw [hg]; exact (below_size (by repeat (first | (with_reducible first | exact HB.out | apply below_alloc | apply pw_below_drewN | apply below_drew1) | exact HB.out))) : w.heap.size ≤ gb262)); clear HB; have HB := n0_; have BK262 := n1_; have GW262 := n2_; have GE262 := n3_; clear n0_ n1_ n2_ n3_; clear hb hbox hg; have hcz17_0 : w16.cell? ⟨gb262, 0, none⟩ = some (.int .i64 0) := (blk_cell BK262.out 0).trans rfl; have hcz17_1 : w16.cell? ⟨gb262, 1, none⟩ = some (.int .i64 0) := (blk_cell BK262.out 1).trans rfl; have hcz17_2 : w16.cell? ⟨gb262, 2, none⟩ = some (.string (⟨#[]⟩ : ByteArray)) := (blk_cell BK262.out 2).trans rfl; have hfz17_0 := blk_frozen BK262.out 0; have hfz17_1 := blk_frozen BK262.out 1; have hfz17_2 := blk_frozen BK262.out 2))
                      go_ret2
                      exact ⟨by first | rfl | (simp [errW_none, errW_some] <;> rfl) | (simp [*, errW_none, errW_some] <;> rfl), by repeat (first | (with_reducible first | exact HB.out | apply below_alloc | apply pw_below_drewN | apply below_drew1 | refine below_set ?_ GE262.out) | exact HB.out)⟩
                  · rw [if_neg c12] at H
                    have c12b0 : decide (a1 < ((rd_T42 l0 x23_2).f1)) = false := decide_eq_false c12
                    clear c12
                    replace H := Option.bind_eq_some_iff.mp H
                    obtain ⟨t263, A180, H⟩ := H
                    replace H : (edits_Shift.l0 k2 a1 (wrap64 (x6_2 + t263)) l0 (l0.length : Int) (wrap64 (x23_2 + 1))) = some (r1, r2) := H
                    have A18 := Aside0.mk A180
                    clear A180
                    have H' := Aside0.mk H
                    clear H
                    have p261 : 0 ≤ (x23_2 : Int) := of_decide_eq_true (by first | (with_reducible assumption) | assumption)
                    have q261 : x23_2 < (l0.length : Int) := of_decide_eq_true (by first | (with_reducible assumption) | assumption)
                    obtain ⟨ad261, e261, hx261_0, hx261_1, hx261_2⟩ := at_T42 HR0.out x23_2 p261 q261
                    cases e261
                    replace hx261_0 := (HB.out.cell (World.block_lt_of_cell? w _ hx261_0)).trans hx261_0
                    replace hx261_1 := (HB.out.cell (World.block_lt_of_cell? w _ hx261_1)).trans hx261_1
                    replace hx261_2 := (HB.out.cell (World.block_lt_of_cell? w _ hx261_2)).trans hx261_2
                    replace p261 := eq_true p261
                    replace q261 := eq_true q261
                    go_wp2_with (first | ((with_reducible refine gate_dst (N := 8) rfl ?_); refine box_event ?hg (N := 8) ?hd (cs := #[.int .i64 0, .int .i64 0, .string (⟨#[]⟩ : ByteArray)]) (t := 42) ?hr ?_; (case hd => rfl); (case hg => rfl); (case hr => first | (go_simp; done) | (go_simp; rfl)); intro gb262 hg w19 hbox hb; have n0_ := Aside0.mk (below_step (by repeat (first | (with_reducible first | exact HB.out | apply below_alloc | apply pw_below_drewN | apply below_drew1) | exact HB.out)) hb); have n1_ := Aside0.mk (hbox); have n2_ := Aside0.mk ((by rw [hg]; exact (below_size (by repeat (first | (with_reducible first | exact HB.out | apply below_alloc | apply pw_below_drewN | apply below_drew1) | exact HB.out))) : w.heap.size ≤ gb262)); have n3_ := Aside0.mk ((by rw [hg]; exact (below_size (by repeat (first | (with_reducible first | exact HB.out | apply below_alloc | apply pw_below_drewN | apply below_drew1) | exact HB.out))) : w.heap.size ≤ gb262)); clear HB; have HB := n0_; have BK262 := n1_; have GW262 := n2_; have GE262 := n3_; clear n0_ n1_ n2_ n3_; clear hb hbox hg; have hcz20_0 : w19.cell? ⟨gb262, 0, none⟩ = some (.int .i64 0) := (blk_cell BK262.out 0).trans rfl; have hcz20_1 : w19.cell? ⟨gb262, 1, none⟩ = some (.int .i64 0) := (blk_cell BK262.out 1).trans rfl; have hcz20_2 : w19.cell? ⟨gb262, 2, none⟩ = some (.string (⟨#[]⟩ : ByteArray)) := (blk_cell BK262.out 2).trans rfl; have hfz20_0 := blk_frozen BK262.out 0; have hfz20_1 := blk_frozen BK262.out 1; have hfz20_2 := blk_frozen BK262.out 2) | ((with_reducible refine gate_callee (f := 34) rfl ?_); refine goesL_ (some 37) rfl rfl Try.func34 (by kernel_rfl) rfl #[.agg #[.int .i64 ((rd_T42 l0 x23_2).f0), .int .i64 ((rd_T42 l0 x23_2).f1), .string ((rd_T42 l0 x23_2).f2)]] rfl (by (try simp only [List.map_toArray, List.map_cons, List.map_nil]); first | done | rfl | (simp only [List.length_drop, List.length_take]; rfl)) ?_; (with_reducible refine (edits_grows.calls ((rd_T42 l0 x23_2).f0) ((rd_T42 l0 x23_2).f1) ((rd_T42 l0 x23_2).f2) t263 _ A18.out).mono ?_); rintro e w21 ⟨rfl, hb⟩; refine ⟨_, rfl, ?_⟩; have n0_ := Aside0.mk (blk_below (g := gb262) (o := .cells #[.int .i64 ((rd_T42 l0 x23_2).f0), .int .i64 ((rd_T42 l0 x23_2).f1), .string ((rd_T42 l0 x23_2).f2)] 42 (0, 0)) (by (with_reducible repeat (first | refine blk_drewN ?_ _ | refine blk_drew ?_ | refine blk_alloc ?_ _)); refine blk_put (cs := #[.int .i64 ((rd_T42 l0 x23_2).f0), .int .i64 ((rd_T42 l0 x23_2).f1), .string (⟨#[]⟩ : ByteArray)]) ?_ 2 _ rfl; (with_reducible repeat (first | refine blk_drewN ?_ _ | refine blk_drew ?_ | refine blk_alloc ?_ _)); refine blk_put (cs := #[.int .i64 ((rd_T42 l0 x23_2).f0), .int .i64 0, .string (⟨#[]⟩ : ByteArray)]) ?_ 1 _ rfl; (with_reducible repeat (first | refine blk_drewN ?_ _ | refine blk_drew ?_ | refine blk_alloc ?_ _)); refine blk_put (cs := #[.int .i64 0, .int .i64 0, .string (⟨#[]⟩ : ByteArray)]) ?_ 0 _ rfl; (with_reducible repeat (first | refine blk_drewN ?_ _ | refine blk_drew ?_ | refine blk_alloc ?_ _)); exact BK262.out) hb); have n1_ := Aside0.mk (below_step (by repeat (first | (with_reducible first | exact HB.out | apply below_alloc | apply pw_below_drewN | apply below_drew1 | refine below_set ?_ GE262.out) | exact HB.out)) hb); clear BK262; clear HB; have BK262 := n0_; have HB := n1_; clear n0_ n1_; (try clear hb); (try clear hb2); (try clear hk); (try clear hi)))
                    go_roundg k2
                    case measure => have := HJ2.out; have := HK2.out; omega
                    case rel => exact ⟨(wrap64 (x6_2 + t263)), (wrap64 (x23_2 + 1)), (by first | rfl | (simp; done) | (simp [*]; done)), (by first | rfl | (simp; done) | (simp [*]; done)), H', ⟨by have := HJ2.out; have := HK2.out; omega⟩, ⟨by repeat (first | (with_reducible first | exact HB.out | apply below_alloc | apply pw_below_drewN | apply below_drew1 | refine below_set ?_ GE262.out) | exact HB.out)⟩⟩
                · rw [if_neg c11] at H
                  exact absurd H (by simp)
              · rw [if_neg c10] at H
                exact absurd H (by simp)
            · rw [if_neg c9] at H
              have c9b0 : decide (x23_2 < (l0.length : Int)) = false := decide_eq_false c9
              clear c9
              simp only [Option.some.injEq, Prod.mk.injEq] at H
              obtain ⟨rfl, rfl⟩ := H
              go_wp2
              go_ret2
              exact ⟨by first | rfl | (simp [errW_none, errW_some] <;> rfl) | (simp [*, errW_none, errW_some] <;> rfl), by repeat (first | (with_reducible first | exact HB.out | apply below_alloc | apply pw_below_drewN | apply below_drew1) | exact HB.out)⟩

end Go.Proofs.Ytaihajmdngoeiaa.F

-- A text of this session's own program (wip/myprint.sh over a changed print tool): functions and their walks
namespace Go.Proofs.Ytaihajmdngoeiaa.F
open Go.RowKit Go.Proofs.YtaihajmdngoeiaaW.PrintWords Go.Proofs.YtaihajmdngoeiaaW.PrintLast Go.Proofs.YtaihajmdngoeiaaW.PrintMore
attribute [local go_sem] max2_int min2_int max_two min_two max_three min_three max_four min_four   -- for this text's walks alone
set_option linter.unusedVariables false
set_option linter.unusedSimpArgs false

/-! ### edits_left: function 38 -/
def edits_left.l0 : Nat → Int → List (S42) → Int → Int → Option (Int)
  | 0, _, _, _, _ => none
  | k + 1, x0, x7, x8, x9 => if x9 < x8 then (if 0 ≤ x9 then (if x9 < (x7.length : Int) then ((edits_grows.f ((rd_T42 x7 x9).f0) ((rd_T42 x7 x9).f1) ((rd_T42 x7 x9).f2)).bind fun t281 => (edits_left.l0 k (wrap64 (x0 + t281)) x7 x8 (wrap64 (x9 + 1)))) else (none)) else (none)) else (some x0)
def edits_left.f (k : Nat) (a0 : Int) (l1 : List (S42)) : Option (Int) := edits_left.l0 k a0 l1 (l1.length : Int) 0
set_option maxHeartbeats 8000000 in
set_option maxRecDepth 100000 in
theorem edits_left.calls (k : Nat) (a0 : Int) (A1 : Option Addr) (c1 : Nat) (l1 : List (S42)) (r : Int) (w : World) (hr1 : Kd.C k42 w A1 l1.length l1) (hc1 : l1.length ≤ c1) (h : edits_left.f k a0 l1 = some r) :
    Calls Try.prog 38 #[.int .i64 a0, .slice A1 l1.length c1] w fun e w' => e = .returned (.int .i64 r) ∧ Below w.heap.size w w' := by
  have hu42 := Try.underlying42
  have HR1 := Aside0.mk hr1
  have HC1 := Aside0.mk hc1
  clear hr1 hc1
  have HB := Aside0.mk (Below.refl w.heap.size w)
  have H : (edits_left.l0 k a0 l1 (l1.length : Int) 0) = some r := h
  clear h
  have H' := Aside0.mk H
  clear H
  go_enter Try.func38, Try.ntmps38
  go_wp2
  go_loopg [0, 9] k (fun kq v0 v9 w' => ∃ (x0_1 : Int) (x9_1 : Int), v0 = .int .i64 x0_1 ∧ v9 = .int .i64 x9_1 ∧ Aside0 (edits_left.l0 kq x0_1 l1 (l1.length : Int) x9_1 = some r) ∧ Aside0 (kq ≤ k) ∧ Aside0 (Below w.heap.size w w'))
  case atStart => exact ⟨(a0), (0), (by first | rfl | (simp; done) | (simp [*]; done)), (by first | rfl | (simp; done) | (simp [*]; done)), H', ⟨Nat.le_refl _⟩, ⟨by repeat (first | (with_reducible first | exact HB.out | apply below_alloc | apply pw_below_drewN | apply below_drew1) | exact HB.out)⟩⟩
  case round =>
    clear H'
    try clear c1
    try clear p2
    obtain ⟨x0_1, x9_1, rfl, rfl, HA, HK1, HB⟩ := hrel
    cases gk with
    | zero => exact absurd HA.out (by simp [edits_left.l0])
    | succ k1 =>
      have H := HA.out
      clear HA
      simp only [edits_left.l0] at H
      by_cases c3 : x9_1 < (l1.length : Int)
      · rw [if_pos c3] at H
        have c3b0 : decide (x9_1 < (l1.length : Int)) = true := decide_eq_true c3
        clear c3
        by_cases c4 : 0 ≤ x9_1
        · rw [if_pos c4] at H
          have c4b0 : decide (0 ≤ x9_1) = true := decide_eq_true c4
          clear c4
          by_cases c5 : x9_1 < (l1.length : Int)
          · rw [if_pos c5] at H
            have c5b0 : decide (x9_1 < (l1.length : Int)) = true := decide_eq_true c5
            clear c5
            replace H := Option.bind_eq_some_iff.mp H
            obtain ⟨t281, A60, H⟩ := H
            replace H : (edits_left.l0 k1 (wrap64 (x0_1 + t281)) l1 (l1.length : Int) (wrap64 (x9_1 + 1))) = some r := H
            have A6 := Aside0.mk A60
            clear A60
            have H' := Aside0.mk H
            clear H
            have p279 : 0 ≤ (x9_1 : Int) := of_decide_eq_true (by first | (with_reducible assumption) | assumption)
            have q279 : x9_1 < (l1.length : Int) := of_decide_eq_true (by first | (with_reducible assumption) | assumption)
            obtain ⟨ad279, e279, hx279_0, hx279_1, hx279_2⟩ := at_T42 HR1.out x9_1 p279 q279
            cases e279
            replace hx279_0 := (HB.out.cell (World.block_lt_of_cell? w _ hx279_0)).trans hx279_0
            replace hx279_1 := (HB.out.cell (World.block_lt_of_cell? w _ hx279_1)).trans hx279_1
            replace hx279_2 := (HB.out.cell (World.block_lt_of_cell? w _ hx279_2)).trans hx279_2
            replace p279 := eq_true p279
            replace q279 := eq_true q279
            go_wp2_with (first | ((with_reducible refine gate_dst (N := 6) rfl ?_); refine box_event ?hg (N := 6) ?hd (cs := #[.int .i64 0, .int .i64 0, .string (⟨#[]⟩ : ByteArray)]) (t := 42) ?hr ?_; (case hd => rfl); (case hg => rfl); (case hr => first | (go_simp; done) | (go_simp; rfl)); intro gb280 hg w7 hbox hb; have n0_ := Aside0.mk (below_step (by repeat (first | (with_reducible first | exact HB.out | apply below_alloc | apply pw_below_drewN | apply below_drew1) | exact HB.out)) hb); have n1_ := Aside0.mk (hbox); have n2_ := Aside0.mk ((by rw [hg]; exact (below_size (by repeat (first | (with_reducible first | exact HB.out | apply below_alloc | apply pw_below_drewN | apply below_drew1) | exact HB.out))) : w.heap.size ≤ gb280)); have n3_ := Aside0.mk ((by rw [hg]; exact (below_size (by repeat (first | (with_reducible first | exact HB.out | apply below_alloc | apply pw_below_drewN | apply below_drew1) | exact HB.out))) : w.heap.size ≤ gb280)); clear HB; have HB := n0_; have BK280 := n1_; have GW280 := n2_; have GE280 := n3_; clear n0_ n1_ n2_ n3_; clear hb hbox hg; have hcz8_0 : w7.cell? ⟨gb280, 0, none⟩ = some (.int .i64 0) := (blk_cell BK280.out 0).trans rfl; have hcz8_1 : w7.cell? ⟨gb280, 1, none⟩ = some (.int .i64 0) := (blk_cell BK280.out 1).trans rfl; have hcz8_2 : w7.cell? ⟨gb280, 2, none⟩ = some (.string (⟨#[]⟩ : ByteArray)) := (blk_cell BK280.out 2).trans rfl; have hfz8_0 := blk_frozen BK280.out 0; have hfz8_1 := blk_frozen BK280.out 1; have hfz8_2 := blk_frozen BK280.out 2) | ((with_reducible refine gate_callee (f := 34) rfl ?_); refine goesL_ (some 15) rfl rfl Try.func34 (by kernel_rfl) rfl #[.agg #[.int .i64 ((rd_T42 l1 x9_1).f0), .int .i64 ((rd_T42 l1 x9_1).f1), .string ((rd_T42 l1 x9_1).f2)]] rfl (by (try simp only [List.map_toArray, List.map_cons, List.map_nil]); first | done | rfl | (simp only [List.length_drop, List.length_take]; rfl)) ?_; (with_reducible refine (edits_grows.calls ((rd_T42 l1 x9_1).f0) ((rd_T42 l1 x9_1).f1) ((rd_T42 l1 x9_1).f2) t281 _ A6.out).mono ?_); rintro e w9 ⟨rfl, hb⟩; refine ⟨_, rfl, ?_⟩; have n0_ := Aside0.mk (blk_below (g := gb280) (o := .cells #[.int .i64 ((rd_T42 l1 x9_1).f0), .int .i64 ((rd_T42 l1 x9_1).f1), .string ((rd_T42 l1 x9_1).f2)] 42 (0, 0)) (by (with_reducible repeat (first | refine blk_drewN ?_ _ | refine blk_drew ?_ | refine blk_alloc ?_ _)); refine blk_put (cs := #[.int .i64 ((rd_T42 l1 x9_1).f0), .int .i64 ((rd_T42 l1 x9_1).f1), .string (⟨#[]⟩ : ByteArray)]) ?_ 2 _ rfl; (with_reducible repeat (first | refine blk_drewN ?_ _ | refine blk_drew ?_ | refine blk_alloc ?_ _)); refine blk_put (cs := #[.int .i64 ((rd_T42 l1 x9_1).f0), .int .i64 0, .string (⟨#[]⟩ : ByteArray)]) ?_ 1 _ rfl; (with_reducible repeat (first | refine blk_drewN ?_ _ | refine blk_drew ?_ | refine blk_alloc ?_ _)); refine blk_put (cs := #[.int .i64 0, .int .i64 0, .string (⟨#[]⟩ : ByteArray)]) ?_ 0 _ rfl; (with_reducible repeat (first | refine blk_drewN ?_ _ | refine blk_drew ?_ | refine blk_alloc ?_ _)); exact BK280.out) hb); have n1_ := Aside0.mk (below_step (by repeat (first | (with_reducible first | exact HB.out | apply below_alloc | apply pw_below_drewN | apply below_drew1 | refine below_set ?_ GE280.out) | exact HB.out)) hb); clear BK280; clear HB; have BK280 := n0_; have HB := n1_; clear n0_ n1_; (try clear hb); (try clear hb2); (try clear hk); (try clear hi)))
            go_roundg k1
            case measure => have := HK1.out; omega
            case rel => exact ⟨(wrap64 (x0_1 + t281)), (wrap64 (x9_1 + 1)), (by first | rfl | (simp; done) | (simp [*]; done)), (by first | rfl | (simp; done) | (simp [*]; done)), H', ⟨by have := HK1.out; omega⟩, ⟨by repeat (first | (with_reducible first | exact HB.out | apply below_alloc | apply pw_below_drewN | apply below_drew1 | refine below_set ?_ GE280.out) | exact HB.out)⟩⟩
          · rw [if_neg c5] at H
            exact absurd H (by simp)
        · rw [if_neg c4] at H
          exact absurd H (by simp)
      · rw [if_neg c3] at H
        have c3b0 : decide (x9_1 < (l1.length : Int)) = false := decide_eq_false c3
        clear c3
        obtain rfl := Option.some.inj H
        go_wp2
        go_ret
        exact ⟨by first | rfl | (simp [errW_none, errW_some] <;> rfl) | (simp [*, errW_none, errW_some] <;> rfl), by repeat (first | (with_reducible first | exact HB.out | apply below_alloc | apply pw_below_drewN | apply below_drew1) | exact HB.out)⟩

end Go.Proofs.Ytaihajmdngoeiaa.F

-- A text of this session's own program (wip/myprint.sh over a changed print tool): functions and their walks
namespace Go.Proofs.Ytaihajmdngoeiaa.F
open Go.RowKit Go.Proofs.YtaihajmdngoeiaaW.PrintWords Go.Proofs.YtaihajmdngoeiaaW.PrintLast Go.Proofs.YtaihajmdngoeiaaW.PrintMore
attribute [local go_sem] max2_int min2_int max_two min_two max_three min_three max_four min_four   -- for this text's walks alone
set_option linter.unusedVariables false
set_option linter.unusedSimpArgs false

/-! ### edits_Apply: function 24 -/
def edits_Apply.l0 : Nat → ByteArray → List Int → Int → List (S42) → Int → Int → Option (ByteArray × Int)
  | 0, _, _, _, _, _, _ => none
  | k + 1, x0, x7, x8, x23, x24, x25 => if x25 < x24 then (if 0 ≤ x25 then (if x25 < (x23.length : Int) then (if 0 ≤ x8 then (if x8 ≤ ((rd_T42 x23 x25).f0) then (if ((rd_T42 x23 x25).f0) ≤ (x0.size : Int) then (if x7.length + (x0.extract (x8 : Int).toNat (((rd_T42 x23 x25).f0) : Int).toNat).size < 140737488355328 then ((some (x7 ++ bytesOf (x0.extract (x8 : Int).toNat (((rd_T42 x23 x25).f0) : Int).toNat) : List Int)).bind fun y289 => (if y289.length + ((rd_T42 x23 x25).f2).size < 140737488355328 then (edits_Apply.l0 k x0 (y289 ++ bytesOf ((rd_T42 x23 x25).f2)) ((rd_T42 x23 x25).f1) x23 x24 (wrap64 (x25 + 1))) else (none))) else (none)) else (none)) else (none)) else (none)) else (none)) else (none)) else (if 0 ≤ x8 then (if x8 ≤ (x0.size : Int) then (if x7.length + (x0.extract (x8 : Int).toNat x0.size).size < 140737488355328 then (some (strOfNums (x7 ++ bytesOf (x0.extract (x8 : Int).toNat x0.size)), 0)) else (none)) else (none)) else (none))
def edits_Apply.f (k : Nat) (a0 : ByteArray) (l1 : List (S42)) : Option (ByteArray × Int) := (edits_valid.f k (a0.size : Int) l1).bind fun t282 => (if t282 = 0 then ((edits_left.f k (a0.size : Int) l1).bind fun t283 => (if 0 ≤ t283 then (if (t283 : Int).toNat ≤ 281474976710656 then (edits_Apply.l0 k a0 (([] : List Int)) 0 l1 (l1.length : Int) 0) else (none)) else (none))) else (some ((⟨#[]⟩ : ByteArray), t282)))
set_option maxHeartbeats 8000000 in
set_option maxRecDepth 100000 in
theorem edits_Apply.calls (k : Nat) (a0 : ByteArray) (A1 : Option Addr) (c1 : Nat) (l1 : List (S42)) (r1 : ByteArray) (r2 : Int) (w : World) (hr1 : Kd.C k42 w A1 l1.length l1) (hc1 : l1.length ≤ c1) (h : edits_Apply.f k a0 l1 = some (r1, r2)) :
    Calls Try.prog 24 #[.string a0, .slice A1 l1.length c1] w fun e w' => e = .returned (.tuple #[.string r1, .int .i64 r2]) ∧ Below w.heap.size w w' := by
  have hu42 := Try.underlying42
  have HR1 := Aside0.mk hr1
  have HC1 := Aside0.mk hc1
  clear hr1 hc1
  have HB := Aside0.mk (Below.refl w.heap.size w)
  have H : ((edits_valid.f k (a0.size : Int) l1).bind fun t282 => (if t282 = 0 then ((edits_left.f k (a0.size : Int) l1).bind fun t283 => (if 0 ≤ t283 then (if (t283 : Int).toNat ≤ 281474976710656 then (edits_Apply.l0 k a0 (([] : List Int)) 0 l1 (l1.length : Int) 0) else (none)) else (none))) else (some ((⟨#[]⟩ : ByteArray), t282)))) = some (r1, r2) := h
  clear h
  replace H := Option.bind_eq_some_iff.mp H
  obtain ⟨t282, A30, H⟩ := H
  replace H : (if t282 = 0 then ((edits_left.f k (a0.size : Int) l1).bind fun t283 => (if 0 ≤ t283 then (if (t283 : Int).toNat ≤ 281474976710656 then (edits_Apply.l0 k a0 (([] : List Int)) 0 l1 (l1.length : Int) 0) else (none)) else (none))) else (some ((⟨#[]⟩ : ByteArray), t282))) = some (r1, r2) := H
  have A3 := Aside0.mk A30
  clear A30
  by_cases c4 : t282 = 0
  · rw [if_pos c4] at H
    have c4b0 : (t282 == 0) = true := beq_iff_eq.mpr c4
    have c4b1 : (t282 != 0) = false := bne_eq_false_iff_eq.mpr c4
    clear c4
    replace H := Option.bind_eq_some_iff.mp H
    obtain ⟨t283, A50, H⟩ := H
    replace H : (if 0 ≤ t283 then (if (t283 : Int).toNat ≤ 281474976710656 then (edits_Apply.l0 k a0 (([] : List Int)) 0 l1 (l1.length : Int) 0) else (none)) else (none)) = some (r1, r2) := H
    have A5 := Aside0.mk A50
    clear A50
    by_cases c6 : 0 ≤ t283
    · rw [if_pos c6] at H
      have c6b0 := eq_true c6
      have c6b1 : decide (0 ≤ t283) = true := decide_eq_true c6
      clear c6
      by_cases c7 : (t283 : Int).toNat ≤ 281474976710656
      · rw [if_pos c7] at H
        have c7b0 := eq_true c7
        have c7b1 : decide ((t283 : Int).toNat ≤ 281474976710656) = true := decide_eq_true c7
        clear c7
        obtain ⟨y284, hy284⟩ : ∃ y_ : List Int, y_ = (([] : List Int)) := ⟨_, rfl⟩
        replace H : (edits_Apply.l0 k a0 y284 0 l1 (l1.length : Int) 0) = some (r1, r2) := by first | (rw [hy284]; with_reducible exact H) | (have H2_ := (Option.bind_some _ _).symm.trans H; rw [hy284]; with_reducible exact H2_) | (have H2_ := (Option.bind_some _ _).symm.trans H; with_reducible exact H2_) | with_reducible exact H | (rw [hy284]; exact H) | exact H
        have Ny284 := Aside0.mk hy284
        clear hy284
        have H' := Aside0.mk H
        clear H
        go_enter Try.func24, Try.ntmps24
        go_wp2_with (first | ((with_reducible refine gate_callee (f := 32) rfl ?_); refine goesL_ (some 14) rfl rfl Try.func32 (by kernel_rfl) rfl #[.int .i64 (a0.size : Int), .slice A1 l1.length c1] rfl (by (try simp only [List.map_toArray, List.map_cons, List.map_nil]); first | done | rfl | (simp only [List.length_drop, List.length_take]; rfl)) ?_; (with_reducible refine (edits_valid.calls k (a0.size : Int) _ _ l1 t282 _ ?side1 ?side2 A3.out).mono ?_); (case side1 => repeat (first | exact HR1.out | (with_reducible refine Kd.C_alloc ?_ _) | (with_reducible refine Kd.C_drewN ?_ _) | (with_reducible refine Kd.C_drew ?_))); (case side2 => exact HC1.out); rintro e w8 ⟨rfl, hb⟩; refine ⟨_, rfl, ?_⟩; have n0_ := Aside0.mk (below_step (by repeat (first | (with_reducible first | exact HB.out | apply below_alloc | apply pw_below_drewN | apply below_drew1) | exact HB.out)) hb); clear HB; have HB := n0_; clear n0_; (try clear hb); (try clear hb2); (try clear hk); (try clear hi)) | ((with_reducible refine gate_callee (f := 38) rfl ?_); refine goesL_ (some 21) rfl rfl Try.func38 (by kernel_rfl) rfl #[.int .i64 (a0.size : Int), .slice A1 l1.length c1] rfl (by (try simp only [List.map_toArray, List.map_cons, List.map_nil]); first | done | rfl | (simp only [List.length_drop, List.length_take]; rfl)) ?_; (with_reducible refine (edits_left.calls k (a0.size : Int) _ _ l1 t283 _ ?side1 ?side2 A5.out).mono ?_); (case side1 => repeat (first | exact (Kd.C_below HR1.out HB.out) | (with_reducible refine Kd.C_alloc ?_ _) | (with_reducible refine Kd.C_drewN ?_ _) | (with_reducible refine Kd.C_drew ?_))); (case side2 => exact HC1.out); rintro e w9 ⟨rfl, hb⟩; refine ⟨_, rfl, ?_⟩; have n0_ := Aside0.mk (below_step (by repeat (first | (with_reducible first | exact HB.out | apply below_alloc | apply pw_below_drewN | apply below_drew1) | exact HB.out)) hb); clear HB; have HB := n0_; clear n0_; (try clear hb); (try clear hb2); (try clear hk); (try clear hi)) | ((with_reducible refine gate_dst (N := 22) rfl ?_); refine Kd.R_makec (Kd.int .u8) _ 5 rfl (N := 22) rfl 53 _ _ rfl t283 rfl rfl Try.underlying53 (.int .u8 0) 1 info5 rfl (by decide) (by omega) 0 (ok := fun _ => True) (okp := fun _ => True) rfl (fun _ hk => hk) trivial (of_decide_eq_true (by first | (with_reducible assumption) | assumption)) (Nat.le_trans (Nat.mul_le_mul_right _ (of_decide_eq_true (by first | (with_reducible assumption) | assumption) : t283.toNat ≤ 281474976710656)) (by omega)) (Below.refl _ _) (Nat.le_refl _) ?_; intro v285 w10 ho11 hb hg_ hnew_; clear hg_ hnew_; (first | rw [← Ny284.out] at ho11 | (simp only [Int.reduceToNat] at ho11; rw [← Ny284.out] at ho11)); have n0_ := Aside0.mk (Kd.R_lower ho11 (below_size (by repeat (first | (with_reducible first | exact HB.out | apply below_alloc | apply pw_below_drewN | apply below_drew1) | exact HB.out)))); have n1_ := Aside0.mk (below_step (by repeat (first | (with_reducible first | exact HB.out | apply below_alloc | apply pw_below_drewN | apply below_drew1) | exact HB.out)) hb); clear HB; have HO286 := n0_; have HB := n1_; clear n0_ n1_; clear hb ho11))
        go_loopg [7, 8, 25] k (fun kq v7 v8 v25 w' => ∃ (x7_1 : List Int) (x8_1 : Int) (x25_1 : Int), v8 = .int .i64 x8_1 ∧ v25 = .int .i64 x25_1 ∧ Aside0 (edits_Apply.l0 kq a0 x7_1 x8_1 l1 (l1.length : Int) x25_1 = some (r1, r2)) ∧ Aside0 (kq ≤ k) ∧ Aside0 (Kd.R (Kd.int .u8) 5 w' w.heap.size (fun _ => True) v7 x7_1) ∧ Aside0 (Below w.heap.size w w'))
        case atStart => exact ⟨(y284), (0), (0), (by first | rfl | (simp; done) | (simp [*]; done)), (by first | rfl | (simp; done) | (simp [*]; done)), H', ⟨Nat.le_refl _⟩, ⟨by (with_reducible repeat (first | apply Kd.R_alloc | apply Kd.R_drewN | apply Kd.R_drew)); exact HO286.out⟩, ⟨by repeat (first | (with_reducible first | exact HB.out | apply below_alloc | apply pw_below_drewN | apply below_drew1) | exact HB.out)⟩⟩
        case round =>
          clear H'
          try clear c1
          try clear c2
          try clear p2
          try clear c3
          try clear c4
          try clear c4b0
          try clear c4b1
          try clear c6
          try clear c6b0
          try clear c6b1
          try clear c7
          try clear c7b0
          try clear c7b1
          obtain ⟨x7_1, x8_1, x25_1, rfl, rfl, HA, HK1, HO_7, HB⟩ := hrel
          cases gk with
          | zero => exact absurd HA.out (by simp [edits_Apply.l0])
          | succ k1 =>
            have H := HA.out
            clear HA
            simp only [edits_Apply.l0] at H
            by_cases c12 : x25_1 < (l1.length : Int)
            · rw [if_pos c12] at H
              have c12b0 : decide (x25_1 < (l1.length : Int)) = true := decide_eq_true c12
              clear c12
              by_cases c13 : 0 ≤ x25_1
              · rw [if_pos c13] at H
                have c13b0 : decide (0 ≤ x25_1) = true := decide_eq_true c13
                clear c13
                by_cases c14 : x25_1 < (l1.length : Int)
                · rw [if_pos c14] at H
                  have c14b0 : decide (x25_1 < (l1.length : Int)) = true := decide_eq_true c14
                  clear c14
                  by_cases c15 : 0 ≤ x8_1
                  · rw [if_pos c15] at H
                    have c15b0 := eq_true c15
                    have c15b1 : decide (0 ≤ x8_1) = true := decide_eq_true c15
                    clear c15
                    by_cases c16 : x8_1 ≤ ((rd_T42 l1 x25_1).f0)
                    · rw [if_pos c16] at H
                      have c16b0 := eq_true c16
                      have c16b1 : decide (x8_1 ≤ ((rd_T42 l1 x25_1).f0)) = true := decide_eq_true c16
                      clear c16
                      by_cases c17 : ((rd_T42 l1 x25_1).f0) ≤ (a0.size : Int)
                      · rw [if_pos c17] at H
                        have c17b0 := eq_true c17
                        have c17b1 : decide (((rd_T42 l1 x25_1).f0) ≤ (a0.size : Int)) = true := decide_eq_true c17
                        clear c17
                        by_cases c18 : x7_1.length + (a0.extract (x8_1 : Int).toNat (((rd_T42 l1 x25_1).f0) : Int).toNat).size < 140737488355328
                        · rw [if_pos c18] at H
                          have LMc18 := Aside0.mk c18
                          clear c18
                          obtain ⟨y289, hy289⟩ : ∃ y_ : List Int, y_ = (x7_1 ++ bytesOf (a0.extract (x8_1 : Int).toNat (((rd_T42 l1 x25_1).f0) : Int).toNat)) := ⟨_, rfl⟩
                          replace H : (if y289.length + ((rd_T42 l1 x25_1).f2).size < 140737488355328 then (edits_Apply.l0 k1 a0 (y289 ++ bytesOf ((rd_T42 l1 x25_1).f2)) ((rd_T42 l1 x25_1).f1) l1 (l1.length : Int) (wrap64 (x25_1 + 1))) else (none)) = some (r1, r2) := by first | (rw [hy289]; with_reducible exact H) | (have H2_ := (Option.bind_some _ _).symm.trans H; rw [hy289]; with_reducible exact H2_) | (have H2_ := (Option.bind_some _ _).symm.trans H; with_reducible exact H2_) | with_reducible exact H | (rw [hy289]; exact H) | exact H
                          have Ny289 := Aside0.mk hy289
                          clear hy289
                          by_cases c19 : y289.length + ((rd_T42 l1 x25_1).f2).size < 140737488355328
                          · rw [if_pos c19] at H
                            have LMc19 := Aside0.mk c19
                            clear c19
                            obtain ⟨y292, hy292⟩ : ∃ y_ : List Int, y_ = (y289 ++ bytesOf ((rd_T42 l1 x25_1).f2)) := ⟨_, rfl⟩
                            replace H : (edits_Apply.l0 k1 a0 y292 ((rd_T42 l1 x25_1).f1) l1 (l1.length : Int) (wrap64 (x25_1 + 1))) = some (r1, r2) := by first | (rw [hy292]; with_reducible exact H) | (have H2_ := (Option.bind_some _ _).symm.trans H; rw [hy292]; with_reducible exact H2_) | (have H2_ := (Option.bind_some _ _).symm.trans H; with_reducible exact H2_) | with_reducible exact H | (rw [hy292]; exact H) | exact H
                            have Ny292 := Aside0.mk hy292
                            clear hy292
                            have H' := Aside0.mk H
                            clear H
                            have p287 : 0 ≤ (x25_1 : Int) := of_decide_eq_true (by first | (with_reducible assumption) | assumption)
                            have q287 : x25_1 < (l1.length : Int) := of_decide_eq_true (by first | (with_reducible assumption) | assumption)
                            obtain ⟨ad287, e287, hx287_0, hx287_1, hx287_2⟩ := at_T42 HR1.out x25_1 p287 q287
                            cases e287
                            replace hx287_0 := (HB.out.cell (World.block_lt_of_cell? w _ hx287_0)).trans hx287_0
                            replace hx287_1 := (HB.out.cell (World.block_lt_of_cell? w _ hx287_1)).trans hx287_1
                            replace hx287_2 := (HB.out.cell (World.block_lt_of_cell? w _ hx287_2)).trans hx287_2
                            replace p287 := eq_true p287
                            replace q287 := eq_true q287
                            go_wp2_with (first | ((with_reducible refine gate_dst (N := 10) rfl ?_); refine box_event ?hg (N := 10) ?hd (cs := #[.int .i64 0, .int .i64 0, .string (⟨#[]⟩ : ByteArray)]) (t := 42) ?hr ?_; (case hd => rfl); (case hg => rfl); (case hr => first | (go_simp; done) | (go_simp; rfl)); intro gb288 hg w20 hbox hb; have n0_ := Aside0.mk (Kd.R_below (by (with_reducible repeat (first | apply Kd.R_alloc | apply Kd.R_drewN | apply Kd.R_drew)); exact HO_7.out) hb); have n1_ := Aside0.mk (below_step (by repeat (first | (with_reducible first | exact HB.out | apply below_alloc | apply pw_below_drewN | apply below_drew1) | exact HB.out)) hb); have n2_ := Aside0.mk (hbox); have n3_ := Aside0.mk ((by rw [hg]; exact (below_size (by repeat (first | (with_reducible first | exact HB.out | apply below_alloc | apply pw_below_drewN | apply below_drew1) | exact HB.out))) : w.heap.size ≤ gb288)); have n4_ := Aside0.mk ((by rw [hg]; exact (below_size (by repeat (first | (with_reducible first | exact HB.out | apply below_alloc | apply pw_below_drewN | apply below_drew1) | exact HB.out))) : w.heap.size ≤ gb288)); clear HO_7; clear HB; have HO_7 := n0_; have HB := n1_; have BK288 := n2_; have GW288 := n3_; have GE288 := n4_; clear n0_ n1_ n2_ n3_ n4_; clear hb hbox hg; have hcz21_0 : w20.cell? ⟨gb288, 0, none⟩ = some (.int .i64 0) := (blk_cell BK288.out 0).trans rfl; have hcz21_1 : w20.cell? ⟨gb288, 1, none⟩ = some (.int .i64 0) := (blk_cell BK288.out 1).trans rfl; have hcz21_2 : w20.cell? ⟨gb288, 2, none⟩ = some (.string (⟨#[]⟩ : ByteArray)) := (blk_cell BK288.out 2).trans rfl; have hfz21_0 := blk_frozen BK288.out 0; have hfz21_1 := blk_frozen BK288.out 1; have hfz21_2 := blk_frozen BK288.out 2) | (at_builtin; refine print_append_str (w0 := w) w.heap.size rfl (.tmp 29) _ 53 9 5 rfl Try.underlying53 Try.underlying9 info5 u7 x7_1 (a0.extract (x8_1 : Int).toNat (((rd_T42 l1 x25_1).f0) : Int).toNat) rfl rfl ?aO ?aB ?aS ?aL ?_; (case aB => exact (by repeat (first | (with_reducible first | exact HB.out | apply below_alloc | apply pw_below_drewN | apply below_drew1 | refine below_set ?_ GE288.out) | exact HB.out))); (case aO => exact (Kd.own_of_R (by (with_reducible repeat (first | apply Kd.R_alloc | apply Kd.R_drewN | apply Kd.R_drew)); exact Kd.R_mono (Kd.R_far (p := ⟨gb288, 2, none⟩) (Kd.R_far (p := ⟨gb288, 1, none⟩) (Kd.R_far (p := ⟨gb288, 0, none⟩) (Kd.R_types HO_7.out BK288.out (by decide)) (fun _ hk => hk.2) (.int .i64 ((rd_T42 l1 x25_1).f0))) (fun _ hk => hk.2) (.int .i64 ((rd_T42 l1 x25_1).f1))) (fun _ hk => hk.2) (.string ((rd_T42 l1 x25_1).f2))) (fun _ hk => trivial)))); (case aS => exact (below_size (by repeat (first | (with_reducible first | exact HB.out | apply below_alloc | apply pw_below_drewN | apply below_drew1 | refine below_set ?_ GE288.out) | exact HB.out)))); (case aL => have := LMc18.out; omega); intro v290 w22 ho0 hb hg; have ho := Kd.R_of_own (h1 := fun _ => rfl) (ok := fun _ => True) ho0 (fun _ _ => trivial); clear ho0; have hat := True.intro; rw [← Ny289.out] at ho; change Kd.R (Kd.int .u8) 5 w22 w.heap.size (fun _ => True) v290 y289 at ho; have n0_ := Aside0.mk (blk_grown (g := gb288) (o := .cells #[.int .i64 ((rd_T42 l1 x25_1).f0), .int .i64 ((rd_T42 l1 x25_1).f1), .string ((rd_T42 l1 x25_1).f2)] 42 (0, 0)) (by (with_reducible repeat (first | refine blk_drewN ?_ _ | refine blk_drew ?_ | refine blk_alloc ?_ _)); refine blk_put (cs := #[.int .i64 ((rd_T42 l1 x25_1).f0), .int .i64 ((rd_T42 l1 x25_1).f1), .string (⟨#[]⟩ : ByteArray)]) ?_ 2 _ rfl; (with_reducible repeat (first | refine blk_drewN ?_ _ | refine blk_drew ?_ | refine blk_alloc ?_ _)); refine blk_put (cs := #[.int .i64 ((rd_T42 l1 x25_1).f0), .int .i64 0, .string (⟨#[]⟩ : ByteArray)]) ?_ 1 _ rfl; (with_reducible repeat (first | refine blk_drewN ?_ _ | refine blk_drew ?_ | refine blk_alloc ?_ _)); refine blk_put (cs := #[.int .i64 0, .int .i64 0, .string (⟨#[]⟩ : ByteArray)]) ?_ 0 _ rfl; (with_reducible repeat (first | refine blk_drewN ?_ _ | refine blk_drew ?_ | refine blk_alloc ?_ _)); exact BK288.out) hg (Kd.R_ne HO_7.out BK288.out (by decide))); have n1_ := Aside0.mk (hb); have n2_ := Aside0.mk (ho); clear BK288; clear HB; clear HO_7; have BK288 := n0_; have HB := n1_; have HO291 := n2_; clear n0_ n1_ n2_; clear ho hb hg hat; have hcz23_0 : w22.cell? ⟨gb288, 0, none⟩ = some (.int .i64 ((rd_T42 l1 x25_1).f0)) := (blk_cell BK288.out 0).trans rfl; have hcz23_1 : w22.cell? ⟨gb288, 1, none⟩ = some (.int .i64 ((rd_T42 l1 x25_1).f1)) := (blk_cell BK288.out 1).trans rfl; have hcz23_2 : w22.cell? ⟨gb288, 2, none⟩ = some (.string ((rd_T42 l1 x25_1).f2)) := (blk_cell BK288.out 2).trans rfl; have hfz23_0 := blk_frozen BK288.out 0; have hfz23_1 := blk_frozen BK288.out 1; have hfz23_2 := blk_frozen BK288.out 2) | (at_builtin; refine print_append_str (w0 := w) w.heap.size rfl (.tmp 36) _ 53 9 5 rfl Try.underlying53 Try.underlying9 info5 v290 y289 ((rd_T42 l1 x25_1).f2) rfl rfl ?aO ?aB ?aS ?aL ?_; (case aB => exact (by repeat (first | (with_reducible first | exact HB.out | apply below_alloc | apply pw_below_drewN | apply below_drew1 | refine below_set ?_ GE288.out) | exact HB.out))); (case aO => exact (Kd.own_of_R (by (with_reducible repeat (first | apply Kd.R_alloc | apply Kd.R_drewN | apply Kd.R_drew)); exact HO291.out))); (case aS => exact (below_size (by repeat (first | (with_reducible first | exact HB.out | apply below_alloc | apply pw_below_drewN | apply below_drew1 | refine below_set ?_ GE288.out) | exact HB.out)))); (case aL => have := LMc19.out; omega); intro v293 w24 ho0 hb hg; have ho := Kd.R_of_own (h1 := fun _ => rfl) (ok := fun _ => True) ho0 (fun _ _ => trivial); clear ho0; have hat := True.intro; rw [← Ny292.out] at ho; change Kd.R (Kd.int .u8) 5 w24 w.heap.size (fun _ => True) v293 y292 at ho; have n0_ := Aside0.mk (blk_grown (g := gb288) (o := .cells #[.int .i64 ((rd_T42 l1 x25_1).f0), .int .i64 ((rd_T42 l1 x25_1).f1), .string ((rd_T42 l1 x25_1).f2)] 42 (0, 0)) (by (with_reducible repeat (first | refine blk_drewN ?_ _ | refine blk_drew ?_ | refine blk_alloc ?_ _)); exact BK288.out) hg (Kd.R_ne HO291.out BK288.out (by decide))); have n1_ := Aside0.mk (hb); have n2_ := Aside0.mk (ho); clear BK288; clear HB; clear HO291; have BK288 := n0_; have HB := n1_; have HO294 := n2_; clear n0_ n1_ n2_; clear ho hb hg hat; have hcz25_0 : w24.cell? ⟨gb288, 0, none⟩ = some (.int .i64 ((rd_T42 l1 x25_1).f0)) := (blk_cell BK288.out 0).trans rfl; have hcz25_1 : w24.cell? ⟨gb288, 1, none⟩ = some (.int .i64 ((rd_T42 l1 x25_1).f1)) := (blk_cell BK288.out 1).trans rfl; have hcz25_2 : w24.cell? ⟨gb288, 2, none⟩ = some (.string ((rd_T42 l1 x25_1).f2)) := (blk_cell BK288.out 2).trans rfl; have hfz25_0 := blk_frozen BK288.out 0; have hfz25_1 := blk_frozen BK288.out 1; have hfz25_2 := blk_frozen BK288.out 2))
                            go_roundg k1
                            case measure => have := HK1.out; omega
                            case rel => exact ⟨(y292), ((rd_T42 l1 x25_1).f1), (wrap64 (x25_1 + 1)), (by first | rfl | (simp; done) | (simp [*]; done)), (by first | rfl | (simp; done) | (simp [*]; done)), H', ⟨by have := HK1.out; omega⟩, ⟨by (with_reducible repeat (first | apply Kd.R_alloc | apply Kd.R_drewN | apply Kd.R_drew)); exact HO294.out⟩, ⟨by repeat (first | (with_reducible first | exact HB.out | apply below_alloc | apply pw_below_drewN | apply below_drew1 | refine below_set ?_ GE288.out) | exact HB.out)⟩⟩
                          · rw [if_neg c19] at H
                            exact absurd H (by simp)
                        · rw [if_neg c18] at H
                          exact absurd H (by simp)
                      · rw [if_neg c17] at H
                        exact absurd H (by simp)
                    · rw [if_neg c16] at H
                      exact absurd H (by simp)
                  · rw [if_neg c15] at H
                    exact absurd H (by simp)
                · rw [if_neg c14] at H
                  exact absurd H (by simp)
              · rw [if_neg c13] at H
                exact absurd H (by simp)
            · rw [if_neg c12] at H
              have c12b0 : decide (x25_1 < (l1.length : Int)) = false := decide_eq_false c12
              clear c12
              by_cases c26 : 0 ≤ x8_1
              · rw [if_pos c26] at H
                have c26b0 := eq_true c26
                have c26b1 : decide (0 ≤ x8_1) = true := decide_eq_true c26
                clear c26
                by_cases c27 : x8_1 ≤ (a0.size : Int)
                · rw [if_pos c27] at H
                  have c27b0 := eq_true c27
                  have c27b1 : decide (x8_1 ≤ (a0.size : Int)) = true := decide_eq_true c27
                  clear c27
                  by_cases c28 : x7_1.length + (a0.extract (x8_1 : Int).toNat a0.size).size < 140737488355328
                  · rw [if_pos c28] at H
                    have LMc28 := Aside0.mk c28
                    clear c28
                    obtain ⟨y295, hy295⟩ : ∃ y_ : List Int, y_ = (x7_1 ++ bytesOf (a0.extract (x8_1 : Int).toNat a0.size)) := ⟨_, rfl⟩
                    replace H : (some (strOfNums y295, 0)) = some (r1, r2) := by first | (rw [hy295]; with_reducible exact H) | (have H2_ := (Option.bind_some _ _).symm.trans H; rw [hy295]; with_reducible exact H2_) | (have H2_ := (Option.bind_some _ _).symm.trans H; with_reducible exact H2_) | with_reducible exact H | (rw [hy295]; exact H) | exact H
                    have Ny295 := Aside0.mk hy295
                    clear hy295
                    simp only [Option.some.injEq, Prod.mk.injEq] at H
                    obtain ⟨rfl, rfl⟩ := H
                    go_wp2_with (first | (at_builtin; refine print_append_str (w0 := w) w.heap.size rfl (.tmp 43) _ 53 9 5 rfl Try.underlying53 Try.underlying9 info5 u7 x7_1 (a0.extract (x8_1 : Int).toNat a0.size) rfl rfl ?aO ?aB ?aS ?aL ?_; (case aB => exact (by repeat (first | (with_reducible first | exact HB.out | apply below_alloc | apply pw_below_drewN | apply below_drew1) | exact HB.out))); (case aO => exact (Kd.own_of_R (by (with_reducible repeat (first | apply Kd.R_alloc | apply Kd.R_drewN | apply Kd.R_drew)); exact HO_7.out))); (case aS => exact (below_size (by repeat (first | (with_reducible first | exact HB.out | apply below_alloc | apply pw_below_drewN | apply below_drew1) | exact HB.out)))); (case aL => have := LMc28.out; omega); intro v296 w29 ho0 hb hg; have ho := Kd.R_of_own (h1 := fun _ => rfl) (ok := fun _ => True) ho0 (fun _ _ => trivial); clear ho0; have hat := True.intro; rw [← Ny295.out] at ho; change Kd.R (Kd.int .u8) 5 w29 w.heap.size (fun _ => True) v296 y295 at ho; have n0_ := Aside0.mk (hb); have n1_ := Aside0.mk (ho); clear HB; clear HO_7; have HB := n0_; have HO297 := n1_; clear n0_ n1_; clear ho hb hg hat; have hcv30 := own_string (P := Try.prog) Try.underlying53 Try.underlying5 Try.underlying9 (Kd.own_of_R HO297.out)))
                    go_ret2
                    exact ⟨by first | rfl | (simp [errW_none, errW_some] <;> rfl) | (simp [*, errW_none, errW_some] <;> rfl), by repeat (first | (with_reducible first | exact HB.out | apply below_alloc | apply pw_below_drewN | apply below_drew1) | exact HB.out)⟩
                  · rw [if_neg c28] at H
                    exact absurd H (by simp)
                · rw [if_neg c27] at H
                  exact absurd H (by simp)
              · rw [if_neg c26] at H
                exact absurd H (by simp)
      · rw [if_neg c7] at H
        exact absurd H (by simp)
    · rw [if_neg c6] at H
      exact absurd H (by simp)
  · rw [if_neg c4] at H
    have c4b0 : (t282 == 0) = false := beq_eq_false_iff_ne.mpr c4
    have c4b1 : (t282 != 0) = true := bne_iff_ne.mpr c4
    simp only [Option.some.injEq, Prod.mk.injEq] at H
    obtain ⟨rfl, rfl⟩ := H
    go_enter Try.func24, Try.ntmps24
    go_wp2_with (first | ((with_reducible refine gate_callee (f := 32) rfl ?_); refine goesL_ (some 14) rfl rfl Try.func32 (by kernel_rfl) rfl #[.int .i64 (a0.size : Int), .slice A1 l1.length c1] rfl (by (try simp only [List.map_toArray, List.map_cons, List.map_nil]); first | done | rfl | (simp only [List.length_drop, List.length_take]; rfl)) ?_; (with_reducible refine (edits_valid.calls k (a0.size : Int) _ _ l1 t282 _ ?side1 ?side2 A3.out).mono ?_); (case side1 => repeat (first | exact HR1.out | (with_reducible refine Kd.C_alloc ?_ _) | (with_reducible refine Kd.C_drewN ?_ _) | (with_reducible refine Kd.C_drew ?_))); (case side2 => exact HC1.out); rintro e w31 ⟨rfl, hb⟩; refine ⟨_, rfl, ?_⟩; have n0_ := Aside0.mk (below_step (by repeat (first | (with_reducible first | exact HB.out | apply below_alloc | apply pw_below_drewN | apply below_drew1) | exact HB.out)) hb); clear HB; have HB := n0_; clear n0_; (try clear hb); (try clear hb2); (try clear hk); (try clear hi)))
    go_ret2
    exact ⟨by first | rfl | (simp [errW_none, errW_some] <;> rfl) | (simp [*, errW_none, errW_some] <;> rfl), by repeat (first | (with_reducible first | exact HB.out | apply below_alloc | apply pw_below_drewN | apply below_drew1) | exact HB.out)⟩

end Go.Proofs.Ytaihajmdngoeiaa.F

namespace Go.Proofs.Ytaihajmdngoeiaa.Q
open Go.RowKit Go.Proofs.YtaihajmdngoeiaaW.PrintWords Go.Proofs.YtaihajmdngoeiaaW.PrintLast Go.Proofs.YtaihajmdngoeiaaW.PrintMore
open Go.Proofs.Ytaihajmdngoeiaa.F

theorem w64 {x : Int} (h0 : -9223372036854775808 ≤ x) (h1 : x ≤ 9223372036854775807) : wrap64 x = x := by unfold wrap64; omega
theorem rd_at (l : List S42) (i : Nat) (h : i < l.length) : rd_T42 l (i : Int) = l[i] := by
  simp [rd_T42, List.getD_eq_getElem?_getD, h]

/-- What is wrong with a list of edits, the last one's end known. -/
def vgo (size : Int) : Option Int → List S42 → Int
  | _, [] => 0
  | p, e :: t => if e.f0 < 0 ∨ e.f1 < e.f0 ∨ e.f1 > size then 10 else match p with
    | none => vgo size (some e.f1) t
    | some q => if e.f0 ≤ q then 11 else vgo size (some e.f1) t
def vspec (size : Int) (l : List S42) : Int := if (l.length : Int) > 65536 then 2 else vgo size none l
def prev (l : List S42) (i : Nat) : Option Int := if i = 0 then none else some (rd_T42 l ((i : Int) - 1)).f1
theorem prev_zero (l : List S42) : prev l 0 = none := rfl
theorem prev_succ (l : List S42) (i : Nat) (h : i < l.length) : prev l (i + 1) = some (l[i]).f1 := by
  unfold prev
  rw [if_neg (by omega), show ((i + 1 : Nat) : Int) - 1 = (i : Int) by omega, rd_at l i h]
theorem vgo_at (size : Int) (l : List S42) (i : Nat) (h : i < l.length) (p : Option Int) : vgo size p (l.drop i) =
    if (l[i]).f0 < 0 ∨ (l[i]).f1 < (l[i]).f0 ∨ (l[i]).f1 > size then 10 else match p with
    | none => vgo size (prev l (i + 1)) (l.drop (i + 1))
    | some q => if (l[i]).f0 ≤ q then 11 else vgo size (prev l (i + 1)) (l.drop (i + 1)) := by
  rw [prev_succ l i h, List.drop_eq_getElem_cons h]
  cases p <;> simp only [vgo]
theorem vgo_end (size : Int) (l : List S42) (i : Nat) (h : ¬ i < l.length) (p : Option Int) : vgo size p (l.drop i) = 0 := by
  rw [List.drop_eq_nil_of_le (by omega)]
  cases p <;> rfl

theorem valid_loop (size : Int) (l : List S42) (hl : l.length ≤ 65536) (d : Nat) : ∀ i, i ≤ l.length → l.length - i = d →
    Ev (fun k => edits_valid.l0 k size l l (l.length : Int) (i : Int)) (vgo size (prev l i) (l.drop i)) := by
  induction d with
  | zero =>
    intro i h1 h2
    refine ⟨1, fun n hn => ?_⟩
    obtain ⟨k, rfl⟩ : ∃ m, n = m + 1 := ⟨n - 1, by omega⟩
    simp only [edits_valid.l0]
    rw [if_neg (by omega), vgo_end _ _ _ (by omega)]
  | succ d ih =>
    intro i h1 h2
    have hi : i < l.length := by omega
    obtain ⟨K, hK⟩ := ih (i + 1) (by omega) (by omega)
    refine ⟨K + 4, fun n hn => ?_⟩
    obtain ⟨k, rfl⟩ : ∃ m, n = m + 4 := ⟨n - 4, by omega⟩
    have hgo := hK (k + 1) (by omega)
    have hgo2 := hK (k + 2) (by omega)
    rw [vgo_at size l i hi]
    have hj : ∀ b : Bool, b = decide ((l[i]).f0 < 0 ∨ (l[i]).f1 < (l[i]).f0 ∨ (l[i]).f1 > size) →
        edits_valid.j1 (k + 3) size l (i : Int) l (l.length : Int) (i : Int) b (l[i]).f0 (l[i]).f1 (l[i]).f2 = some (if (l[i]).f0 < 0 ∨ (l[i]).f1 < (l[i]).f0 ∨ (l[i]).f1 > size then 10 else match prev l i with
    | none => vgo size (prev l (i + 1)) (l.drop (i + 1))
    | some q => if (l[i]).f0 ≤ q then 11 else vgo size (prev l (i + 1)) (l.drop (i + 1))) := by
      intro b hb
      simp only [edits_valid.j1]
      by_cases hbad : (l[i]).f0 < 0 ∨ (l[i]).f1 < (l[i]).f0 ∨ (l[i]).f1 > size
      · rw [if_pos (by rw [hb]; exact decide_eq_true hbad), if_pos hbad]
      · rw [if_neg (by rw [hb]; simpa using hbad), if_neg hbad]
        have hw1 : wrap64 ((i : Int) + 1) = ((i + 1 : Nat) : Int) := by rw [w64] <;> omega
        rcases Nat.eq_zero_or_pos i with h0 | h0
        · subst h0
          have hm : mx (wrap64 (((0 : Nat) : Int) - 1)) 0 = 0 := by rw [w64 (by omega) (by omega)]; unfold mx; omega
          rw [hm, if_pos (by omega), if_pos (by omega), if_pos (by omega)]
          simp only [Option.bind_some, edits_valid.l1, prev_zero]
          rw [if_neg (by simp), hw1]
          exact hgo
        · have hm : mx (wrap64 ((i : Int) - 1)) 0 = (i : Int) - 1 := by rw [w64 (by omega) (by omega)]; unfold mx; omega
          rw [hm, if_pos (by omega), if_pos (by omega), if_pos (by omega)]
          have hp : prev l i = some (rd_T42 l ((i : Int) - 1)).f1 := by unfold prev; rw [if_neg (by omega)]
          have hy : (l.take (i : Int).toNat).drop ((i : Int) - 1).toNat = [rd_T42 l ((i : Int) - 1)] := by
            obtain ⟨j, rfl⟩ : ∃ j, i = j + 1 := ⟨i - 1, by omega⟩
            rw [show (((j + 1 : Nat) : Int) - 1) = (j : Int) by omega, rd_at l j (by omega), Int.toNat_natCast, Int.toNat_natCast]
            rw [List.take_succ_eq_append_getElem (by omega), List.drop_append_of_le_length (by rw [List.length_take]; omega)]
            simp
          rw [hy, hp]
          simp only [Option.bind_some, edits_valid.l1, List.length_singleton]
          rw [if_pos (by omega), if_pos (by omega), if_pos (by omega)]
          have hz : rd_T42 [rd_T42 l ((i : Int) - 1)] 0 = rd_T42 l ((i : Int) - 1) := rfl
          rw [hz]
          by_cases hle : (l[i]).f0 ≤ (rd_T42 l ((i : Int) - 1)).f1
          · rw [if_neg (by omega), if_pos hle]
          · rw [if_pos (by omega), if_neg hle, hw1]
            exact hgo
    simp only [edits_valid.l0]
    rw [rd_at l i hi, if_pos (by omega), if_pos (by omega), if_pos (by omega)]
    by_cases c1 : (l[i]).f0 < 0
    · rw [if_pos c1]; exact hj _ (by simp [c1])
    · rw [if_neg c1]
      by_cases c2 : (l[i]).f1 < (l[i]).f0
      · rw [if_pos c2]; exact hj _ (by simp [c2])
      · rw [if_neg c2]; exact hj _ (by simp [c1, c2])

theorem valid_is (size : Int) (l : List S42) : Ev (fun k => edits_valid.f k size l) (vspec size l) := by
  unfold edits_valid.f vspec
  by_cases h : (l.length : Int) > 65536
  · simp only [if_pos h]; exact Ev.now _
  · simp only [if_neg h]
    have := valid_loop size l (by omega) l.length 0 (by omega) (by omega)
    simpa [prev_zero] using this

def Vspec (size : Int) (l : List S42) : Int := if size < 0 then 1 else if size > 4611686018427387904 then 1 else vspec size l
theorem Valid_is (size : Int) (l : List S42) : Ev (fun k => edits_Valid.f k size l) (Vspec size l) := by
  unfold edits_Valid.f Vspec
  by_cases h : size < 0
  · simp only [if_pos h]; exact Ev.now _
  · simp only [if_neg h]
    by_cases h' : size > 4611686018427387904
    · simp only [if_pos h']; exact Ev.now _
    · simp only [if_neg h']
      exact (valid_is size l).bind (Ev.now _)
end Go.Proofs.Ytaihajmdngoeiaa.Q

-- Merge, plainly: the order that two lists are taken in, and what the document's neighbours' checks have to do with it
namespace Go.Proofs.Ytaihajmdngoeiaa.Q
open Go.RowKit Go.Proofs.YtaihajmdngoeiaaW.PrintWords Go.Proofs.YtaihajmdngoeiaaW.PrintLast Go.Proofs.YtaihajmdngoeiaaW.PrintMore
open Go.Proofs.Ytaihajmdngoeiaa.F
set_option linter.unusedVariables false
set_option linter.unusedSimpArgs false

/-- Does x stand ahead of y? -/
def aheadB (x y : S42) : Bool := decide (x.f0 < y.f0) || (decide (x.f0 = y.f0) && decide (x.f1 < y.f1))
/-- Both lists in the order in which they are taken. -/
def mergeL : Nat → List S42 → List S42 → List S42
  | 0, _, _ => []
  | _ + 1, [], [] => []
  | d + 1, [], y :: b => y :: mergeL d [] b
  | d + 1, x :: a, [] => x :: mergeL d a []
  | d + 1, x :: a, y :: b => if aheadB y x = true then y :: mergeL d (x :: a) b else x :: mergeL d a (y :: b)
/-- Does none of them begin ahead of the last one's end (en), nor where the last insertion is (pt)? -/
def okL : Int → Int → List S42 → Bool
  | _, _, [] => true
  | en, pt, e :: l => if e.f0 < en ∨ (e.f0 = e.f1 ∧ e.f0 = pt) then false else okL e.f1 (if e.f0 = e.f1 then e.f0 else pt) l
/-- In order, one behind the other. -/
def MChain : Option S42 → List S42 → Prop
  | _, [] => True
  | none, e :: l => 0 ≤ e.f0 ∧ e.f0 ≤ e.f1 ∧ MChain (some e) l
  | some u, e :: l => u.f1 < e.f0 ∧ 0 ≤ e.f0 ∧ e.f0 ≤ e.f1 ∧ MChain (some e) l
theorem vgo_chain (size : Int) : ∀ (l : List S42) (p : Option S42), vgo size (p.map (·.f1)) l = 0 → MChain p l
  | [], p, _ => by cases p <;> trivial
  | e :: l, p, h => by
    simp only [vgo] at h
    by_cases c : e.f0 < 0 ∨ e.f1 < e.f0 ∨ e.f1 > size
    · rw [if_pos c] at h
      cases h
    · rw [if_neg c] at h
      cases p with
      | none => exact ⟨by omega, by omega, vgo_chain size l (some e) h⟩
      | some u =>
        simp only [Option.map_some] at h
        by_cases c2 : e.f0 ≤ u.f1
        · rw [if_pos c2] at h
          cases h
        · rw [if_neg c2] at h
          exact ⟨by omega, by omega, by omega, vgo_chain size l (some e) h⟩
/-- One behind the other, and no two insertions in one place. -/
def Far (x y : S42) : Prop := x.f1 ≤ y.f0 ∧ ¬ (x.f0 = x.f1 ∧ y.f0 = y.f1 ∧ x.f0 = y.f0)
theorem okL_far : ∀ (L : List S42) (en pt : Int), (∀ e ∈ L, e.f0 ≤ e.f1) → pt ≤ en → okL en pt L = true → (∀ e ∈ L, en ≤ e.f0 ∧ (e.f0 = e.f1 → e.f0 ≠ pt)) ∧ L.Pairwise Far
  | [], en, pt, _, _, _ => ⟨fun e h => (by cases h), List.Pairwise.nil⟩
  | e :: l, en, pt, hs, hp, h => by
    simp only [okL] at h
    by_cases c : e.f0 < en ∨ (e.f0 = e.f1 ∧ e.f0 = pt)
    · rw [if_pos c] at h
      cases h
    · rw [if_neg c] at h
      have he := hs e List.mem_cons_self
      obtain ⟨h1, h2⟩ := okL_far l e.f1 _ (fun x hx => hs x (List.mem_cons_of_mem _ hx)) (by split <;> omega) h
      refine ⟨fun x hx => ?_, List.pairwise_cons.2 ⟨fun x hx => ?_, h2⟩⟩
      · rcases List.mem_cons.1 hx with rfl | hx
        · exact ⟨by omega, fun h => by omega⟩
        · have := h1 x hx
          refine ⟨by omega, fun hi hq => ?_⟩
          have := this.2 hi
          split at this <;> omega
      · have := h1 x hx
        refine ⟨this.1, fun hi => ?_⟩
        have h3 := this.2 hi.2.1
        rw [if_pos hi.1] at h3
        omega
theorem mergeL_mem : ∀ (d : Nat) (a b : List S42), a.length + b.length ≤ d → ∀ e, e ∈ mergeL d a b ↔ e ∈ a ∨ e ∈ b
  | 0, a, b, h, e => by
    obtain rfl : a = [] := List.eq_nil_of_length_eq_zero (by omega)
    obtain rfl : b = [] := List.eq_nil_of_length_eq_zero (by omega)
    simp [mergeL]
  | d + 1, [], [], h, e => by simp [mergeL]
  | d + 1, [], y :: b, h, e => by
    simp only [mergeL, List.mem_cons, mergeL_mem d [] b (by simp at h ⊢; omega), List.not_mem_nil, false_or]
  | d + 1, x :: a, [], h, e => by
    simp only [mergeL, List.mem_cons, mergeL_mem d a [] (by simp at h ⊢; omega), List.not_mem_nil, or_false]
  | d + 1, x :: a, y :: b, h, e => by
    simp only [mergeL]
    split
    · simp only [List.mem_cons, mergeL_mem d (x :: a) b (by simp at h ⊢; omega)]
      exact or_left_comm
    · simp only [List.mem_cons, mergeL_mem d a (y :: b) (by simp at h ⊢; omega)]
      exact or_assoc.symm
theorem mergeL_pairs : ∀ (d : Nat) (a b : List S42), a.length + b.length ≤ d → (mergeL d a b).Pairwise Far → ∀ x ∈ a, ∀ y ∈ b, Far x y ∨ Far y x
  | 0, a, b, h, _, x, hx, y, hy => by
    obtain rfl : a = [] := List.eq_nil_of_length_eq_zero (by omega)
    cases hx
  | d + 1, [], b, _, _, x, hx, y, hy => by cases hx
  | d + 1, x' :: a, [], _, _, x, hx, y, hy => by cases hy
  | d + 1, x' :: a, y' :: b, h, hp, x, hx, y, hy => by
    have hl1 : (x' :: a).length + b.length ≤ d := by simp only [List.length_cons] at h ⊢; omega
    have hl2 : a.length + (y' :: b).length ≤ d := by simp only [List.length_cons] at h ⊢; omega
    simp only [mergeL] at hp
    split at hp
    · obtain ⟨h1, h2⟩ := List.pairwise_cons.1 hp
      rcases List.mem_cons.1 hy with rfl | hy
      · exact .inr (h1 x ((mergeL_mem d _ _ hl1 x).2 (.inl hx)))
      · exact mergeL_pairs d _ _ hl1 h2 x hx y hy
    · obtain ⟨h1, h2⟩ := List.pairwise_cons.1 hp
      rcases List.mem_cons.1 hx with rfl | hx
      · exact .inl (h1 y ((mergeL_mem d _ _ hl2 y).2 (.inr hy)))
      · exact mergeL_pairs d _ _ hl2 h2 x hx y hy
end Go.Proofs.Ytaihajmdngoeiaa.Q

-- Merge of the document, plainly
namespace Go.Proofs.Ytaihajmdngoeiaa.Q
open Go.RowKit Go.Proofs.YtaihajmdngoeiaaW.PrintWords Go.Proofs.YtaihajmdngoeiaaW.PrintLast Go.Proofs.YtaihajmdngoeiaaW.PrintMore
open Go.Proofs.Ytaihajmdngoeiaa.F
set_option linter.unusedVariables false
set_option linter.unusedSimpArgs false

/-- How many bytes all texts have. -/
def sz : List S42 → Nat
  | [] => 0
  | e :: t => e.f2.size + sz t
theorem sz_app (a b : List S42) : sz (a ++ b) = sz a + sz b := by
  induction a with
  | nil => simp [sz]
  | cons x a ih => simp only [List.cons_append, sz, ih]; omega
theorem sz_mem {l : List S42} {i : Nat} (h : i < l.length) : (l[i]).f2.size ≤ sz l := by
  induction l generalizing i with
  | nil => cases h
  | cons x l ih =>
    cases i with
    | zero => simp only [List.getElem_cons_zero, sz]; omega
    | succ i => simp only [List.getElem_cons_succ, sz]; have := ih (i := i) (by simpa using h); omega
theorem sz_set {l : List S42} {i : Nat} (h : i < l.length) (e : S42) : sz (l.set i e) + (l[i]).f2.size = sz l + e.f2.size := by
  induction l generalizing i with
  | nil => cases h
  | cons x l ih =>
    cases i with
    | zero => simp only [List.set_cons_zero, List.getElem_cons_zero, sz]; omega
    | succ i => simp only [List.set_cons_succ, List.getElem_cons_succ, sz]; have := ih (i := i) (by simpa using h); omega
/-- One more in the list: with the last one, where it begins at its end. -/
def joinE (out : List S42) (e : S42) : List S42 :=
  if 0 < out.length ∧ (rd_T42 out ((out.length : Int) - 1)).f1 = e.f0 then out.set (out.length - 1) ⟨(rd_T42 out ((out.length : Int) - 1)).f0, e.f1, (rd_T42 out ((out.length : Int) - 1)).f2 ++ e.f2⟩ else out ++ [e]
def joinR (out : List S42) (l : List S42) : List S42 := l.foldl joinE out
theorem rd_last {out : List S42} (h : 0 < out.length) : rd_T42 out ((out.length : Int) - 1) = out[out.length - 1] := by
  rw [show (out.length : Int) - 1 = ((out.length - 1 : Nat) : Int) by omega]
  exact rd_at out _ (by omega)
theorem joinE_sz (out : List S42) (e : S42) : sz (joinE out e) ≤ sz out + e.f2.size := by
  unfold joinE
  by_cases c : 0 < out.length ∧ (rd_T42 out ((out.length : Int) - 1)).f1 = e.f0
  · rw [if_pos c]
    have h := sz_set (l := out) (i := out.length - 1) (by omega) ⟨(rd_T42 out ((out.length : Int) - 1)).f0, e.f1, (rd_T42 out ((out.length : Int) - 1)).f2 ++ e.f2⟩
    rw [rd_last c.1] at h ⊢
    simp only [ByteArray.size_append] at h
    omega
  · rw [if_neg c, sz_app]
    simp [sz]
theorem joinE_len (out : List S42) (e : S42) : (joinE out e).length ≤ out.length + 1 := by
  unfold joinE
  split <;> simp
def fin (o : List S42) : List S42 × Int := if o.length > 65536 then ([], 2) else (o, 0)

theorem fold_cons (out : List S42) (e : S42) (l : List S42) : joinR out (e :: l) = joinR (joinE out e) l := rfl
/-- What Merge says. -/
def Mspec (size : Int) (a b : List S42) : List S42 × Int :=
  if Vspec size a = 0 then (if Vspec size b = 0 then (if okL (-1) (-1) (mergeL (a.length + b.length) a b) = true then fin (joinR [] (mergeL (a.length + b.length) a b)) else ([], 11)) else ([], Vspec size b)) else ([], Vspec size a)
theorem Vspec_chain {size : Int} {l : List S42} (h : Vspec size l = 0) : l.length ≤ 65536 ∧ MChain none l := by
  unfold Vspec at h
  split at h
  · cases h
  · split at h
    · cases h
    · unfold vspec at h
      split at h
      · cases h
      · exact ⟨by omega, vgo_chain size l none h⟩
end Go.Proofs.Ytaihajmdngoeiaa.Q

-- Merge (28), walked by hand: two boxed lists, a pointer to the one that is taken from
namespace Go.Proofs.Ytaihajmdngoeiaa.F
open Go.RowKit Go.Proofs.YtaihajmdngoeiaaW.PrintWords Go.Proofs.YtaihajmdngoeiaaW.PrintLast Go.Proofs.YtaihajmdngoeiaaW.PrintMore
open Go.Proofs.Ytaihajmdngoeiaa.Q
attribute [local go_sem] max2_int min2_int max_two min_two
set_option linter.unusedVariables false
set_option linter.unusedSimpArgs false

/-- A box that holds what is left of a list that came in. -/
def BxL (w W : World) (g : Nat) (l : List S42) : Prop := ∃ A c, W.heap[g]? = some (.cells #[.slice A l.length c] 22 (0, 0)) ∧ Kd.C k42 w A l.length l ∧ l.length ≤ c
def specM (en pt : Int) (out a b : List S42) : List S42 × Int :=
  if okL en pt (mergeL (a.length + b.length) a b) = true then fin (joinR out (mergeL (a.length + b.length) a b)) else ([], 11)
structure MR (w W : World) (g4 g5 : Nat) (a b out : List S42) (v10 : Value) (en pt : Int) (R : List S42 × Int) : Prop where
  ba : BxL w W g4 a
  bb : BxL w W g5 b
  ho : Kd.R k42 42 W w.heap.size (fun k => k ≠ g4 ∧ k ≠ g5) v10 out
  hb : Below w.heap.size w W
  sp : specM en pt out a b = R
  la : 0 < out.length → (rd_T42 out ((out.length : Int) - 1)).f1 = en
  le : out.length + a.length + b.length ≤ 200000
  ls : sz out + sz a + sz b ≤ 1000000000

/-- One more, or the fault. -/
def stepM (en pt : Int) (out : List S42) (e : S42) (k : Int → Int → List S42 → List S42 × Int) : List S42 × Int :=
  if e.f0 < en ∨ (e.f0 = e.f1 ∧ e.f0 = pt) then ([], 11) else k e.f1 (if e.f0 = e.f1 then e.f0 else pt) (joinE out e)
theorem spec_step (en pt : Int) (out : List S42) (e : S42) (L : List S42) :
    (if okL en pt (e :: L) = true then fin (joinR out (e :: L)) else ([], 11)) = stepM en pt out e (fun en pt out => if okL en pt L = true then fin (joinR out L) else ([], 11)) := by
  unfold stepM
  simp only [okL]
  by_cases c : e.f0 < en ∨ (e.f0 = e.f1 ∧ e.f0 = pt)
  · simp only [if_pos c]
    rfl
  · simp only [if_neg c]
    rfl
theorem spec_a {en pt : Int} {out a b : List S42} {x : S42} (h : ∀ y b', b = y :: b' → aheadB y x = false) : specM en pt out (x :: a) b = stepM en pt out x (fun en pt out => specM en pt out a b) := by
  have e : mergeL ((x :: a).length + b.length) (x :: a) b = x :: mergeL (a.length + b.length) a b := by
    rw [show (x :: a).length + b.length = (a.length + b.length) + 1 by simp only [List.length_cons]; omega]
    cases b with
    | nil => rfl
    | cons y b => simp only [mergeL]; rw [if_neg (by rw [h y b rfl]; simp)]
  unfold specM
  rw [e]
  exact spec_step en pt out x _
theorem spec_b {en pt : Int} {out a b : List S42} {y : S42} (h : ∀ x a', a = x :: a' → aheadB y x = true) : specM en pt out a (y :: b) = stepM en pt out y (fun en pt out => specM en pt out a b) := by
  have e : mergeL (a.length + (y :: b).length) a (y :: b) = y :: mergeL (a.length + b.length) a b := by
    rw [show a.length + (y :: b).length = (a.length + b.length) + 1 by simp only [List.length_cons]; omega]
    cases a with
    | nil => rfl
    | cons x a => simp only [mergeL]; rw [if_pos (h x a rfl)]
  unfold specM
  rw [e]
  exact spec_step en pt out y _
theorem spec_end (en pt : Int) (out : List S42) : specM en pt out [] [] = fin out := rfl
/-- Which list is taken from. -/
def SelP (sel : Bool) (en pt : Int) (out a b : List S42) : Prop :=
  (sel = false ∧ ∃ x a2, a = x :: a2 ∧ specM en pt out a b = stepM en pt out x (fun en pt out => specM en pt out a2 b)) ∨
  (sel = true ∧ ∃ y b2, b = y :: b2 ∧ specM en pt out a b = stepM en pt out y (fun en pt out => specM en pt out a b2))
theorem MR.drewN {w W : World} {g4 g5 : Nat} {a b out : List S42} {v10 : Value} {en pt : Int} {R : List S42 × Int} (h : MR w W g4 g5 a b out v10 en pt R) (n : Nat) : MR w (W.drewN n) g4 g5 a b out v10 en pt R :=
  ⟨h.ba, h.bb, Kd.R_drewN h.ho n, pw_below_drewN h.hb n, h.sp, h.la, h.le, h.ls⟩
/-- One of them is taken from: box g, the other one is gO. -/
def Sym (g gO g4 g5 : Nat) (a b : List S42) (z : S42) (zs lO : List S42) (en pt : Int) (out : List S42) : Prop :=
  (g = g4 ∧ gO = g5 ∧ a = z :: zs ∧ b = lO ∧ specM en pt out a b = stepM en pt out z (fun en pt out => specM en pt out zs lO)) ∨
  (g = g5 ∧ gO = g4 ∧ b = z :: zs ∧ a = lO ∧ specM en pt out a b = stepM en pt out z (fun en pt out => specM en pt out lO zs))
theorem joinE_last (out : List S42) (e : S42) : (rd_T42 (joinE out e) (((joinE out e).length : Int) - 1)).f1 = e.f1 := by
  have hl : 0 < (joinE out e).length := by
    unfold joinE
    split
    · rename_i h; rw [List.length_set]; exact h.1
    · simp
  rw [rd_last hl]
  unfold joinE
  split
  · simp
  · simp
theorem sym_bad {g gO g4 g5 : Nat} {w W : World} {a b zs lO out : List S42} {z : S42} {en pt : Int} {v : Value} {R : List S42 × Int} (h : Sym g gO g4 g5 a b z zs lO en pt out) (hm : MR w W g4 g5 a b out v en pt R) (hb : z.f0 < en ∨ (z.f0 = z.f1 ∧ z.f0 = pt)) : R = ([], 11) := by
  rw [← hm.sp]
  rcases h with ⟨_, _, _, _, e⟩ | ⟨_, _, _, _, e⟩ <;> rw [e] <;> unfold stepM <;> rw [if_pos hb]
theorem sym_next {g gO g4 g5 : Nat} {w W W' : World} {a b zs lO out : List S42} {z : S42} {en pt pt' : Int} {v v' : Value} {R : List S42 × Int} (h : Sym g gO g4 g5 a b z zs lO en pt out) (hm : MR w W g4 g5 a b out v en pt R) (hb : ¬ (z.f0 < en ∨ (z.f0 = z.f1 ∧ z.f0 = pt)))
    (h1 : BxL w W' g zs) (h2 : BxL w W' gO lO) (ho : Kd.R k42 42 W' w.heap.size (fun k => k ≠ g4 ∧ k ≠ g5) v' (joinE out z)) (hw : Below w.heap.size w W') (hp : pt' = if z.f0 = z.f1 then z.f0 else pt) :
    ∃ a' b', MR w W' g4 g5 a' b' (joinE out z) v' z.f1 pt' R ∧ a'.length + b'.length + 1 < a.length + b.length + 1 := by
  subst hp
  have hsp := hm.sp
  have hle := hm.le
  have hls := hm.ls
  have j1 := joinE_sz out z
  have j2 := joinE_len out z
  rcases h with ⟨rfl, rfl, rfl, rfl, e⟩ | ⟨rfl, rfl, rfl, rfl, e⟩
  · refine ⟨zs, b, ⟨h1, h2, ho, hw, ?_, fun _ => joinE_last out z, ?_, ?_⟩, by simp only [List.length_cons]; omega⟩
    · rw [← hsp, e]; unfold stepM; rw [if_neg hb]
    · simp only [List.length_cons] at hle; omega
    · simp only [sz] at hls; omega
  · refine ⟨a, zs, ⟨h2, h1, ho, hw, ?_, fun _ => joinE_last out z, ?_, ?_⟩, by simp only [List.length_cons]; omega⟩
    · rw [← hsp, e]; unfold stepM; rw [if_neg hb]
    · simp only [List.length_cons] at hle; omega
    · simp only [sz] at hls; omega
/-- Behind the taking: what is left, what was taken. -/
structure Tk (w W : World) (g gO gE : Nat) (z : S42) (zs lO out : List S42) (v10 : Value) : Prop where
  b1 : BxL w W g zs
  b2 : BxL w W gO lO
  be : W.heap[gE]? = some (.cells #[.int .i64 z.f0, .int .i64 z.f1, .string z.f2] 42 (0, 0))
  ho : Kd.R k42 42 W w.heap.size (fun k => (k ≠ g ∧ k ≠ gO) ∧ k ≠ gE) v10 out
  hb : Below w.heap.size w W
theorem sym_ok {g gO g4 g5 : Nat} {a b zs lO out : List S42} {z : S42} {en pt : Int} (h : Sym g gO g4 g5 a b z zs lO en pt out) (k : Nat) : (k ≠ g4 ∧ k ≠ g5) ↔ (k ≠ g ∧ k ≠ gO) := by
  rcases h with ⟨rfl, rfl, _⟩ | ⟨rfl, rfl, _⟩
  · exact Iff.rfl
  · exact And.comm
theorem BxL.to {w W W' : World} {g : Nat} {l : List S42} (h : BxL w W g l) (e : W'.heap[g]? = W.heap[g]?) : BxL w W' g l := by
  obtain ⟨A, c, h1, h2, h3⟩ := h
  exact ⟨A, c, e.trans h1, h2, h3⟩
theorem BxL.lt {w W : World} {g : Nat} {l : List S42} (h : BxL w W g l) : g < W.heap.size := by
  obtain ⟨A, c, h1, h2, h3⟩ := h
  exact blk_lt h1
theorem Tk.drewN {w W : World} {g gO gE : Nat} {z : S42} {zs lO out : List S42} {v : Value} (h : Tk w W g gO gE z zs lO out v) (n : Nat) : Tk w (W.drewN n) g gO gE z zs lO out v :=
  ⟨h.b1, h.b2, h.be, Kd.R_drewN h.ho n, pw_below_drewN h.hb n⟩
/-- A step that turns the row alone. -/
theorem Tk.turn {w W W' : World} {g gO gE : Nat} {z : S42} {zs lO out out' : List S42} {v v' : Value} (h : Tk w W g gO gE z zs lO out v) (hg : W.grownBy W' v.ownBlock) (hb : Below w.heap.size w W')
    (ho : Kd.R k42 42 W' w.heap.size (fun k => (k ≠ g ∧ k ≠ gO) ∧ k ≠ gE) v' out') : Tk w W' g gO gE z zs lO out' v' := by
  have hne := h.ho.1
  have far : ∀ k, k < W.heap.size → (k = g ∨ k = gO ∨ k = gE) → W'.heap[k]? = W.heap[k]? := fun k hk hq => hg.block k hk (fun e => by
    have := hne k e.symm
    omega)
  exact ⟨h.b1.to (far _ h.b1.lt (.inl rfl)), h.b2.to (far _ h.b2.lt (.inr (.inl rfl))), (far _ (blk_lt h.be) (.inr (.inr rfl))).trans h.be, ho, hb⟩
theorem Tk.last {w W : World} {g gO gE go m co : Nat} {z : S42} {zs lO out : List S42} (h : Tk w W g gO gE z zs lO out (.slice (some ⟨go, 0, none⟩) (m + 1) co)) (hm : out.length = m + 1) (l : S42) (hl : rd_T42 out (m : Int) = l) :
    W.cell? ⟨go, m * 3, none⟩ = some (.int .i64 l.f0) ∧ W.cell? ⟨go, m * 3 + 1, none⟩ = some (.int .i64 l.f1) ∧ W.cell? ⟨go, m * 3 + 2, none⟩ = some (.string l.f2) ∧ (∀ j, W.frozen? ⟨go, m * 3 + j, none⟩ = false) ∧
    (∀ u, Tk w (W.setCell ⟨go, m * 3 + 1, none⟩ (.int .i64 u)) g gO gE z zs lO (out.set m ⟨l.f0, u, l.f2⟩) (.slice (some ⟨go, 0, none⟩) (m + 1) co)) ∧
    (∀ s, Tk w (W.setCell ⟨go, m * 3 + 2, none⟩ (.string s)) g gO gE z zs lO (out.set m ⟨l.f0, l.f1, s⟩) (.slice (some ⟨go, 0, none⟩) (m + 1) co)) := by
  obtain ⟨c, hcl, hM, hcc, hfr⟩ := Kd.R_elem h.ho z42 (m : Int) (by omega) (by omega)
  obtain rfl := k42_openM hM
  have e : out.getD ((m : Int)).toNat z42 = l := hl
  rw [e] at hcc
  rw [e] at hcl
  have hbase := Kd.R_base h.ho go (by simp [Value.ownBlock])
  refine ⟨hcc 0 _ rfl, hcc 1 _ rfl, hcc 2 _ rfl, hfr, fun u => ?_, fun s => ?_⟩
  · obtain ⟨h1, h2⟩ := Kd.R_seg h.ho (m : Int) (by omega) (by omega) (seg := [.int .i64 u]) (j := 1) hcl hcc (show 2 ≤ 3 by decide) (x' := ⟨l.f0, u, l.f2⟩) (k42_mkM _ _ _ ⟨l.f0, u, l.f2⟩) (fun _ hk => hk)
    exact h.turn h2 (below_set h.hb hbase) h1
  · obtain ⟨h1, h2⟩ := Kd.R_seg h.ho (m : Int) (by omega) (by omega) (seg := [.string s]) (j := 2) hcl hcc (show 3 ≤ 3 by decide) (x' := ⟨l.f0, l.f1, s⟩) (k42_mkM _ _ _ ⟨l.f0, l.f1, s⟩) (fun _ hk => hk)
    exact h.turn h2 (below_set h.hb hbase) h1
theorem tk_fresh {w W : World} {g gO gE : Nat} {z : S42} {zs lO out : List S42} {v : Value} (h : Tk w W g gO gE z zs lO out v) : ∀ k, W.heap.size ≤ k → (k ≠ g ∧ k ≠ gO) ∧ k ≠ gE := fun k hk => by
  have a := h.b1.lt
  have b := h.b2.lt
  have c := blk_lt h.be
  omega
theorem sym_sz {g gO g4 g5 : Nat} {w W : World} {a b zs lO out : List S42} {z : S42} {en pt : Int} {v : Value} {R : List S42 × Int} (h : Sym g gO g4 g5 a b z zs lO en pt out) (hm : MR w W g4 g5 a b out v en pt R) : sz out + z.f2.size ≤ 1000000000 := by
  have hls := hm.ls
  rcases h with ⟨_, _, rfl, rfl, _⟩ | ⟨_, _, rfl, rfl, _⟩ <;> simp only [sz] at hls <;> omega
theorem new_block (w : World) (o : Obj) : (w.alloc o).heap[w.heap.size]? = some o := by
  rw [World.alloc]
  simp
theorem valid_lens {size : Int} {a b : List S42} (h1 : Vspec size a = 0) (h2 : Vspec size b = 0) : a.length + b.length ≤ 200000 := by
  have := (Vspec_chain h1).1
  have := (Vspec_chain h2).1
  omega
def edits_Merge.f (k : Nat) (a0 : Int) (a b : List S42) : Option (List S42 × Int) := if sz a + sz b ≤ 1000000000 then some (Mspec a0 a b) else none
set_option maxRecDepth 100000 in
set_option maxHeartbeats 20000000 in
theorem edits_Merge.calls (k : Nat) (a0 : Int) (A1 : Option Addr) (c1 : Nat) (l1 : List S42) (A2 : Option Addr) (c2 : Nat) (l2 : List S42) (r1 : List S42) (r2 : Int) (w : World) (hr1 : Kd.C k42 w A1 l1.length l1) (hc1 : l1.length ≤ c1) (hr2 : Kd.C k42 w A2 l2.length l2) (hc2 : l2.length ≤ c2) (h : edits_Merge.f k a0 l1 l2 = some (r1, r2)) :
    Calls Try.prog 28 #[.int .i64 a0, .slice A1 l1.length c1, .slice A2 l2.length c2] w fun e w' => ∃ v0_ : Value, e = .returned (.tuple #[v0_, .int .i64 r2]) ∧ Kd.R k42 42 w' w.heap.size (fun _ => True) v0_ r1 ∧ Below w.heap.size w w' := by
  have hu22 := Try.underlying22
  have hu42 := Try.underlying42
  unfold edits_Merge.f at h
  have hsz : sz l1 + sz l2 ≤ 1000000000 := Classical.byContradiction fun hh => by rw [if_neg hh] at h; cases h
  rw [if_pos hsz] at h
  have h' := Option.some.inj h
  clear h
  have HS := Aside0.mk hsz
  have HM := Aside0.mk h'
  have HR1 := Aside0.mk hr1
  have HC1 := Aside0.mk hc1
  have HR2 := Aside0.mk hr2
  have HC2 := Aside0.mk hc2
  obtain ⟨k1, hk1⟩ := (Valid_is a0 l1).rounds
  obtain ⟨k2, hk2⟩ := (Valid_is a0 l2).rounds
  have HV1 := Aside0.mk hk1
  have HV2 := Aside0.mk hk2
  clear hsz h' hr1 hc1 hr2 hc2 hk1 hk2
  obtain ⟨e1, he1⟩ : ∃ e, Vspec a0 l1 = e := ⟨_, rfl⟩
  obtain ⟨e2, he2⟩ : ∃ e, Vspec a0 l2 = e := ⟨_, rfl⟩
  have HM' := HM.out
  unfold Mspec at HM'
  rw [he1, he2] at HM'
  rw [he1] at HV1
  rw [he2] at HV2
  have E1 := Aside0.mk he1
  have E2 := Aside0.mk he2
  clear HM he1 he2
  have HB := Aside0.mk (Below.refl w.heap.size w)
  by_cases q1 : e1 = 0
  · subst q1
    rw [if_pos rfl] at HM'
    by_cases q2 : e2 = 0
    · subst q2
      rw [if_pos rfl] at HM'
      have HM := Aside0.mk HM'
      clear HM'
      go_enter Try.func28, Try.ntmps28
      go_wp2_with (first | ((with_reducible refine gate_dst (N := 4) rfl ?_); refine box_event ?hg4 (N := 4) ?hd4 (cs := #[.slice A1 l1.length c1]) (t := 22) ?hr4 ?_; (case hd4 => rfl); (case hg4 => rfl); (case hr4 => first | (go_simp; done) | (go_simp; rfl)); intro g4 hg w1 hbox hb; have n0_ := Aside0.mk (below_step HB.out hb); have n1_ := Aside0.mk hbox; have GE4 := Aside0.mk (show w.heap.size ≤ g4 by rw [hg]; exact Nat.le_refl _); clear HB; have HB := n0_; have BK4 := n1_; clear n0_ n1_ hb hbox hg; have hcz4 : w1.cell? ⟨g4, 0, none⟩ = some (.slice A1 l1.length c1) := (blk_cell BK4.out 0).trans rfl) | ((with_reducible refine gate_dst (N := 5) rfl ?_); refine box_event ?hg5 (N := 5) ?hd5 (cs := #[.slice A2 l2.length c2]) (t := 22) ?hr5 ?_; (case hd5 => rfl); (case hg5 => rfl); (case hr5 => first | (go_simp; done) | (go_simp; rfl)); intro g5 hg w2 hbox hb; have n0_ := Aside0.mk (below_step HB.out hb); have n1_ := Aside0.mk hbox; have n2_ := Aside0.mk (blk_below BK4.out hb); have GE5 := Aside0.mk (show w.heap.size ≤ g5 by rw [hg]; exact HB.out.size); have N45 := Aside0.mk (show g5 ≠ g4 by rw [hg]; exact (Nat.ne_of_lt (blk_lt BK4.out)).symm); clear HB BK4 hcz4; have HB := n0_; have BK5 := n1_; have BK4 := n2_; clear n0_ n1_ n2_ hb hbox hg; have hcz4 : w2.cell? ⟨g4, 0, none⟩ = some (.slice A1 l1.length c1) := (blk_cell BK4.out 0).trans rfl) | ((with_reducible refine gate_callee (f := 16) rfl ?_); (with_reducible refine gate_dst (N := 19) rfl ?_); refine goesL_ (some 19) rfl rfl Try.func16 (by kernel_rfl) rfl #[.int .i64 a0, .slice A1 l1.length c1] rfl (by (try simp only [List.map_toArray, List.map_cons, List.map_nil]); first | done | rfl) ?_; (with_reducible refine (edits_Valid.calls k1 a0 A1 c1 l1 0 _ (Kd.C_below HR1.out HB.out) HC1.out HV1.out).mono ?_); rintro e w3 ⟨rfl, hb⟩; refine ⟨_, rfl, ?_⟩; have n0_ := Aside0.mk (below_step HB.out hb); have n1_ := Aside0.mk (blk_below BK4.out hb); have n2_ := Aside0.mk (blk_below BK5.out hb); clear HB BK4 BK5 hcz4 hb; have HB := n0_; have BK4 := n1_; have BK5 := n2_; clear n0_ n1_ n2_; have hcz5 : w3.cell? ⟨g5, 0, none⟩ = some (.slice A2 l2.length c2) := (blk_cell BK5.out 0).trans rfl) | ((with_reducible refine gate_callee (f := 16) rfl ?_); (with_reducible refine gate_dst (N := 25) rfl ?_); refine goesL_ (some 25) rfl rfl Try.func16 (by kernel_rfl) rfl #[.int .i64 a0, .slice A2 l2.length c2] rfl (by (try simp only [List.map_toArray, List.map_cons, List.map_nil]); first | done | rfl) ?_; (with_reducible refine (edits_Valid.calls k2 a0 A2 c2 l2 0 _ (Kd.C_below HR2.out HB.out) HC2.out HV2.out).mono ?_); rintro e w4 ⟨rfl, hb⟩; refine ⟨_, rfl, ?_⟩; have n0_ := Aside0.mk (below_step HB.out hb); have n1_ := Aside0.mk (blk_below BK4.out hb); have n2_ := Aside0.mk (blk_below BK5.out hb); clear HB BK4 BK5 hcz5 hb; have HB := n0_; have BK4 := n1_; have BK5 := n2_; clear n0_ n1_ n2_))
      go_loopg [10, 11, 12] (l1.length + l2.length + 1) (fun kq v10 v11 v12 w' => ∃ (a b out : List S42) (en pt : Int), v11 = .int .i64 en ∧ v12 = .int .i64 pt ∧ Aside0 (a.length + b.length + 1 = kq) ∧ Aside0 (MR w w' g4 g5 a b out v10 en pt (r1, r2)))
      case atStart => exact ⟨l1, l2, [], -1, -1, rfl, rfl, ⟨rfl⟩, ⟨⟨A1, c1, BK4.out, HR1.out, HC1.out⟩, ⟨A2, c2, BK5.out, HR2.out, HC2.out⟩, Kd.R_nil _ _ _ _ _, HB.out, HM.out, by simp, by simpa using (valid_lens E1.out E2.out), by have := HS.out; simp [sz]; omega⟩⟩
      case round =>
        clear HM BK4 BK5 HB HV1 HV2
        obtain ⟨a, b, out, en, pt, rfl, rfl, HK, HQ⟩ := hrel
        obtain ⟨Aa, ca, xa, CA, la⟩ := HQ.out.ba
        obtain ⟨Ab, cb, xb, CB, lb⟩ := HQ.out.bb
        obtain ⟨na, hna⟩ : ∃ n, n = a.length := ⟨_, rfl⟩
        obtain ⟨nb, hnb⟩ : ∃ n, n = b.length := ⟨_, rfl⟩
        rw [← hna] at xa
        rw [← hnb] at xb
        have hcz4 : wr.cell? ⟨g4, 0, none⟩ = some (.slice Aa na ca) := (blk_cell xa 0).trans rfl
        have hcz5 : wr.cell? ⟨g5, 0, none⟩ = some (.slice Ab nb cb) := (blk_cell xb 0).trans rfl
        have NA := Aside0.mk hna
        have NB := Aside0.mk hnb
        have XCA := Aside0.mk CA
        have XCB := Aside0.mk CB
        have XLA := Aside0.mk la
        have XLB := Aside0.mk lb
        clear xa xb CA CB la lb hna hnb
        by_cases hab : na = 0 ∧ nb = 0
        · obtain ⟨rfl, rfl⟩ := hab
          have ha : a = [] := List.eq_nil_of_length_eq_zero NA.out.symm
          have hb : b = [] := List.eq_nil_of_length_eq_zero NB.out.symm
          subst ha
          subst hb
          have hsp := HQ.out.sp
          rw [spec_end] at hsp
          unfold fin at hsp
          obtain ⟨Ao, co, eo⟩ := Kd.R_slice HQ.out.ho
          subst eo
          by_cases k1 : out.length > 65536
          · rw [if_pos k1] at hsp
            obtain ⟨rfl, rfl⟩ := Prod.mk.inj hsp
            have d1 : decide (65536 < out.length) = true := decide_eq_true k1
            have d2 : decide (65536 < (out.length : Int)) = true := decide_eq_true (by omega)
            clear k1 hsp
            go_wp2
            go_ret2
            exact ⟨_, rfl, Kd.R_nil _ _ _ _ _, HQ.out.hb⟩
          · rw [if_neg k1] at hsp
            obtain ⟨rfl, rfl⟩ := Prod.mk.inj hsp
            have d1 : decide (65536 < out.length) = false := decide_eq_false k1
            have d2 : decide (65536 < (out.length : Int)) = false := decide_eq_false (by omega)
            clear k1 hsp
            go_wp2
            go_ret2
            exact ⟨_, rfl, Kd.R_mono HQ.out.ho (fun _ _ => trivial), HQ.out.hb⟩
        · have hd : (na = 0 ∧ 0 < nb) ∨ 0 < na := by omega
          clear hab
          go_upto_region 10 with (fail)
          go_cut [36] (fun v36 wc => v36 = .bool true ∧ wc = wr)
          case first =>
            rcases hd with ⟨rfl, hd⟩ | hd
            · have d1 : decide (0 < nb) = true := decide_eq_true hd
              go_wp2
              go_meet
              case rel => exact ⟨rfl, rfl⟩
            · have d1 : decide (0 < na) = true := decide_eq_true hd
              go_wp2
              go_meet
              case rel => exact ⟨rfl, rfl⟩
          case rest =>
            obtain ⟨rfl, rfl⟩ := hcut
            go_upto_region 12 with (fail)
            go_cut [77] (fun v77 wc => ∃ sel : Bool, v77 = .bool sel ∧ Aside0 (SelP sel en pt out a b) ∧ Aside0 (MR w wc g4 g5 a b out u10 en pt (r1, r2)))
            case first =>
              have NA' := NA.out
              have NB' := NB.out
              cases a with
              | nil =>
                cases b with
                | nil => exact absurd hd (by rw [NA', NB']; simp)
                | cons y b =>
                  simp only [List.length_nil] at NA'
                  subst NA'
                  clear NB' hd
                  go_quiet (fail)
                  go_wp2
                  go_meet
                  case rel => exact ⟨true, rfl, ⟨.inr ⟨rfl, y, b, rfl, spec_b (fun x a' e => by cases e)⟩⟩, ⟨HQ.out.drewN _⟩⟩
              | cons x a =>
                obtain ⟨ada, ea, xa0, xa1, xa2⟩ := at_T42 (Kd.C_below XCA.out HQ.out.hb) 0 (by omega) (by simp)
                subst ea
                cases b with
                | nil =>
                  simp only [List.length_nil] at NB'
                  subst NB'
                  have dn : ((na : Int) == 0) = false := beq_eq_false_iff_ne.mpr (by rw [NA']; simp; omega)
                  clear NA' hd xa0 xa1 xa2
                  go_quiet (fail)
                  go_wp2
                  go_meet
                  case rel => exact ⟨false, rfl, ⟨.inl ⟨rfl, x, a, rfl, spec_a (fun y b' e => by cases e)⟩⟩, ⟨HQ.out.drewN _⟩⟩
                | cons y b =>
                  obtain ⟨adb, eb, xb0, xb1, xb2⟩ := at_T42 (Kd.C_below XCB.out HQ.out.hb) 0 (by omega) (by simp)
                  subst eb
                  have dn : ((na : Int) == 0) = false := beq_eq_false_iff_ne.mpr (by rw [NA']; simp; omega)
                  have dm : decide (0 < nb) = true := decide_eq_true (by rw [NB']; simp)
                  have qa : (0 < na) = True := eq_true (by rw [NA']; simp)
                  have qb : (0 < nb) = True := eq_true (by rw [NB']; simp)
                  have ra : rd_T42 (x :: a) 0 = x := rfl
                  have rb : rd_T42 (y :: b) 0 = y := rfl
                  simp only [ra, rb, Int.toNat_zero, Nat.zero_mul, Addr.add_zero'] at xa0 xa1 xa2 xb0 xb1 xb2
                  clear ra rb hd NA' NB'
                  by_cases k1 : y.f0 < x.f0
                  · have d1 : decide (y.f0 < x.f0) = true := decide_eq_true k1
                    have hs : aheadB y x = true := by unfold aheadB; rw [d1]; rfl
                    have HSL := Aside0.mk hs
                    clear k1 hs
                    go_quiet (fail)
                    go_wp2
                    go_meet
                    case rel => exact ⟨true, rfl, ⟨.inr ⟨rfl, y, b, rfl, spec_b (fun x' a' e => by cases e; exact HSL.out)⟩⟩, ⟨HQ.out.drewN _⟩⟩
                  · have d1 : decide (y.f0 < x.f0) = false := decide_eq_false k1
                    by_cases k2 : y.f0 = x.f0
                    · have d2 : (y.f0 == x.f0) = true := beq_iff_eq.mpr k2
                      by_cases k3 : y.f1 < x.f1
                      · have d3 : decide (y.f1 < x.f1) = true := decide_eq_true k3
                        have hs : aheadB y x = true := by unfold aheadB; rw [d3, decide_eq_true k2]; simp
                        have HSL := Aside0.mk hs
                        clear k1 k2 k3 hs
                        go_quiet (fail)
                        go_wp2
                        go_meet
                        case rel => exact ⟨true, rfl, ⟨.inr ⟨rfl, y, b, rfl, spec_b (fun x' a' e => by cases e; exact HSL.out)⟩⟩, ⟨HQ.out.drewN _⟩⟩
                      · have d3 : decide (y.f1 < x.f1) = false := decide_eq_false k3
                        have hs : aheadB y x = false := by unfold aheadB; rw [d1, d3, Bool.and_false]; rfl
                        have HSL := Aside0.mk hs
                        clear k1 k2 k3 hs
                        go_quiet (fail)
                        go_wp2
                        go_meet
                        case rel => exact ⟨false, rfl, ⟨.inl ⟨rfl, x, a, rfl, spec_a (fun y' b' e => by cases e; exact HSL.out)⟩⟩, ⟨HQ.out.drewN _⟩⟩
                    · have d2 : (y.f0 == x.f0) = false := beq_eq_false_iff_ne.mpr k2
                      have hs : aheadB y x = false := by unfold aheadB; rw [d1, decide_eq_false k2]; rfl
                      have HSL := Aside0.mk hs
                      clear k1 k2 hs
                      go_quiet (fail)
                      go_wp2
                      go_meet
                      case rel => exact ⟨false, rfl, ⟨.inl ⟨rfl, x, a, rfl, spec_a (fun y' b' e => by cases e; exact HSL.out)⟩⟩, ⟨HQ.out.drewN _⟩⟩
            case rest =>
              clear HQ NA NB XCA XCB XLA XLB hd hcz4 hcz5
              obtain ⟨sel, rfl, HSL, HQ⟩ := hcut
              go_upto_if 77 with (fail)
              go_cut [13] (fun v13 wd => ∃ g : Nat, v13 = .pointer (some ⟨g, 0, none⟩) ∧ wd = wc ∧ Aside0 (∃ gO z zs lO, Sym g gO g4 g5 a b z zs lO en pt out ∧ g ≠ gO ∧ BxL w wc g (z :: zs) ∧ BxL w wc gO lO))
              case first =>
                rcases HSL.out with ⟨rfl, x, a2, rfl, hsp⟩ | ⟨rfl, y, b2, rfl, hsp⟩
                · have HSP := Aside0.mk hsp
                  clear hsp HSL
                  go_wp2
                  go_meet
                  case rel => exact ⟨g4, rfl, rfl, ⟨⟨g5, x, a2, b, .inl ⟨rfl, rfl, rfl, rfl, HSP.out⟩, N45.out.symm, HQ.out.ba, HQ.out.bb⟩⟩⟩
                · have HSP := Aside0.mk hsp
                  clear hsp HSL
                  go_wp2
                  go_meet
                  case rel => exact ⟨g5, rfl, rfl, ⟨⟨g4, y, b2, a, .inr ⟨rfl, rfl, rfl, rfl, HSP.out⟩, N45.out, HQ.out.bb, HQ.out.ba⟩⟩⟩
              case rest =>
                clear HSL
                obtain ⟨g, rfl, rfl, HY⟩ := hcut
                obtain ⟨gO, x, a2, lO, hsym, hgo, hbx, hbo⟩ := HY.out
                have HSY := Aside0.mk hsym
                have HBO := Aside0.mk hbo
                have NGO := Aside0.mk hgo
                obtain ⟨Aa, ca, xa, CA, la⟩ := hbx
                obtain ⟨ada, ea, xa0, xa1, xa2⟩ := at_T42 (Kd.C_below CA HQ.out.hb) 0 (by omega) (by simp)
                subst ea
                obtain ⟨i0, hi0, _, hsz0, _⟩ := info_parts info42
                have hcut4 := cut_from (P := Try.prog) 22 42 .i64 Try.underlying22 hi0 3 hsz0 (some ada) (x :: a2).length ca 1 (by omega) (by simp; omega)
                have hC2 := Kd.C_drop (m := 1) CA (by simp) la
                obtain ⟨A', hA'⟩ : ∃ A', A' = (if ca = (1 : Int).toNat then (some ada) else ((some ada) : Option Addr).map (·.add ((1 : Int).toNat * 3))) := ⟨_, rfl⟩
                rw [← hA'] at hcut4
                have hC2' : Kd.C k42 w A' a2.length a2 := by rw [hA']; exact hC2
                obtain ⟨na, hna⟩ : ∃ n, n = (x :: a2).length := ⟨_, rfl⟩
                obtain ⟨nd, hnd⟩ : ∃ n, n = na - (1 : Int).toNat := ⟨_, rfl⟩
                obtain ⟨cd, hcd⟩ : ∃ c, c = ca - (1 : Int).toNat := ⟨_, rfl⟩
                rw [← hna] at xa hcut4
                rw [← hnd, ← hcd] at hcut4
                have hcz4 : wc.cell? ⟨g, 0, none⟩ = some (.slice (some ada) na ca) := (blk_cell xa 0).trans rfl
                have qa : (0 < na) = True := eq_true (by rw [hna]; simp)
                have ra : rd_T42 (x :: a2) 0 = x := rfl
                simp only [ra, Int.toNat_zero, Nat.zero_mul, Addr.add_zero'] at xa0 xa1 xa2
                obtain ⟨gE, hgE⟩ : ∃ n, n = wc.heap.size := ⟨_, rfl⟩
                obtain ⟨W1, hW1⟩ : ∃ W, W = wc.alloc (.cells #[.int .i64 x.f0, .int .i64 x.f1, .string x.f2] 42) := ⟨_, rfl⟩
                have m4 : W1.cell? ⟨g, 0, none⟩ = some (.slice (some ada) na ca) := by rw [hW1]; exact (blk_cell (blk_alloc xa _) 0).trans rfl
                have mf : W1.frozen? ⟨g, 0, none⟩ = false := by rw [hW1]; exact blk_frozen (blk_alloc xa _) 0
                obtain ⟨W2, hW2⟩ : ∃ W, W = W1.setCell ⟨g, 0, none⟩ (.slice A' nd cd) := ⟨_, rfl⟩
                have hTK : Tk w W2 g gO gE x a2 lO out u10 := by
                  have z1 : g < wc.heap.size := blk_lt xa
                  have z2 : gO < wc.heap.size := hbo.lt
                  have hbe : W1.heap[gE]? = some (.cells #[.int .i64 x.f0, .int .i64 x.f1, .string x.f2] 42 (0, 0)) := by rw [hW1, hgE]; exact new_block wc _
                  have hnd' : nd = a2.length := by rw [hnd, hna]; simp
                  have hge : g ≥ w.heap.size := by
                    have h4 := GE4.out
                    have h5 := GE5.out
                    rcases hsym with ⟨rfl, _⟩ | ⟨rfl, _⟩ <;> assumption
                  refine ⟨⟨A', cd, ?_, hC2', ?_⟩, hbo.to ?_, ?_, ?_, ?_⟩
                  · rw [hW2, hW1, ← hnd']; exact blk_put (blk_alloc xa _) 0 _ rfl
                  · rw [hcd, ← hnd', hnd]; have := la; rw [← hna] at this; omega
                  · rw [hW2, Below.heap_setCell _ _ _ _ (fun e => hgo e.symm), hW1]; exact Below.heap_alloc _ _ _ z2
                  · rw [hW2]; exact blk_far (p := ⟨g, 0, none⟩) hbe (by show gE ≠ g; omega) _
                  · have hR := Kd.R_alloc (Kd.R_mono (ok' := fun k => (k ≠ g ∧ k ≠ gO) ∧ k ≠ gE) (Kd.R_bound HQ.out.ho) (fun k hk => ⟨(sym_ok hsym k).1 hk.1, by have := hk.2.2.1; omega⟩)) (.cells #[.int .i64 x.f0, .int .i64 x.f1, .string x.f2] 42)
                    rw [hW2, hW1]
                    exact Kd.R_far (p := ⟨g, 0, none⟩) hR (fun k hk => hk.1.1) _
                  · rw [hW2, hW1]; exact below_set (below_alloc HQ.out.hb _) hge
                have HTK := Aside0.mk hTK
                have e0 : W2.cell? ⟨gE, 0, none⟩ = some (.int .i64 x.f0) := (blk_cell hTK.be 0).trans rfl
                have e1 : W2.cell? ⟨gE, 1, none⟩ = some (.int .i64 x.f1) := (blk_cell hTK.be 1).trans rfl
                have e2 : W2.cell? ⟨gE, 2, none⟩ = some (.string x.f2) := (blk_cell hTK.be 2).trans rfl
                clear hTK ra hna hnd hcd hA' hC2 hC2' CA la xa hi0 hsz0 hsym hbo hgo HBO
                rw [hW1] at m4 mf
                have HG := Aside0.mk hgE
                have HW1 := Aside0.mk hW1
                have HW2 := Aside0.mk hW2
                have E0 := Aside0.mk e0
                have E1' := Aside0.mk e1
                have E2' := Aside0.mk e2
                clear hgE hW1 hW2 e0 e1 e2
                go_upto_region 16 with (fail)
                clear hcut4 hcz4 m4 mf xa0 xa1 xa2 qa
                rw [← HG.out, ← HW1.out, ← HW2.out]
                have e0 := E0.out
                have e1 := E1'.out
                have e2 := E2'.out
                clear E0 E1' E2' HG HW1 HW2
                by_cases k1 : x.f0 < en
                · have d1 : decide (x.f0 < en) = true := decide_eq_true k1
                  have hbad := sym_bad HSY.out HQ.out (.inl k1)
                  obtain ⟨rfl, rfl⟩ := Prod.mk.inj hbad
                  clear k1
                  go_wp2
                  go_ret2
                  exact ⟨_, rfl, Kd.R_nil _ _ _ _ _, HTK.out.hb⟩
                · have d1 : decide (x.f0 < en) = false := decide_eq_false k1
                  have K1 := Aside0.mk k1
                  clear k1
                  by_cases k2 : x.f0 = x.f1
                  · have d2 : (x.f0 == x.f1) = true := beq_iff_eq.mpr k2
                    have K2 := Aside0.mk k2
                    clear k2
                    by_cases k3 : x.f0 = pt
                    · have d3 : (x.f0 == pt) = true := beq_iff_eq.mpr k3
                      have hbad := sym_bad HSY.out HQ.out (.inr ⟨K2.out, k3⟩)
                      obtain ⟨rfl, rfl⟩ := Prod.mk.inj hbad
                      clear k3
                      go_wp2
                      go_ret2
                      exact ⟨_, rfl, Kd.R_nil _ _ _ _ _, HTK.out.hb⟩
                    · have d3 : (x.f0 == pt) = false := beq_eq_false_iff_ne.mpr k3
                      have K3 := Aside0.mk k3
                      clear k3
                      have hbd : ¬ (x.f0 < en ∨ (x.f0 = x.f1 ∧ x.f0 = pt)) := by have a1 := K1.out; have a2 := K2.out; have a3 := K3.out; omega
                      have HBD := Aside0.mk hbd
                      clear hbd
                      obtain ⟨Ao, co, eo⟩ := Kd.R_slice HTK.out.ho
                      subst eo
                      by_cases k4 : 0 < out.length ∧ x.f0 = en
                      · obtain ⟨m, hm⟩ : ∃ m, out.length = m + 1 := ⟨out.length - 1, by omega⟩
                        obtain ⟨go, co', eo', _, _, _⟩ := Kd.R_form HTK.out.ho k4.1
                        injection eo' with ea en' ec
                        subst ea
                        subst ec
                        clear en'
                        rw [hm]
                        have hT0 := HTK.out
                        rw [hm] at hT0
                        obtain ⟨l, hl⟩ : ∃ l, rd_T42 out (m : Int) = l := ⟨_, rfl⟩
                        obtain ⟨y0, y1, y2, yf, ys1, _⟩ := hT0.last hm l hl
                        have hT1 := ys1 x.f1
                        have hlt : m < out.length := by omega
                        have hmb : (m : Int) ≤ 200000 := by have := HQ.out.le; omega
                        have hmc : m ≤ 200000 := by have := HQ.out.le; omega
                        have hl1 : rd_T42 (out.set m ⟨l.f0, x.f1, l.f2⟩) (m : Int) = ⟨l.f0, x.f1, l.f2⟩ := by simp [rd_T42, hlt]
                        obtain ⟨t0, t1, t2, tf, _, ts2⟩ := hT1.last (by rw [List.length_set]; exact hm) _ hl1
                        have hT2 := ts2 (l.f2 ++ x.f2)
                        have hj : joinE out x = (out.set m ⟨l.f0, x.f1, l.f2⟩).set m ⟨l.f0, x.f1, l.f2 ++ x.f2⟩ := by
                          unfold joinE
                          have hq := HQ.out.la k4.1
                          rw [if_pos ⟨k4.1, by rw [hq]; exact k4.2.symm⟩, show out.length - 1 = m by omega, show (out.length : Int) - 1 = (m : Int) by omega, hl]
                          simp
                        have hsz2 : l.f2.size + x.f2.size ≤ 9223372036854775807 := by
                          have q1 := sz_mem hlt
                          have q2 := joinE_sz out x
                          have q3 : out[m] = l := by rw [← hl]; simp [rd_T42, hlt]
                          rw [q3] at q1
                          have q4 := sym_sz HSY.out HQ.out
                          omega
                        have d4 : (x.f0 == en) = true := beq_iff_eq.mpr k4.2
                        have hf1 := yf 1
                        have hf2 := tf 2
                        obtain ⟨W3, hW3⟩ : ∃ W, W = W2.setCell ⟨go, m * 3 + 1, none⟩ (.int .i64 x.f1) := ⟨_, rfl⟩
                        have f2 : W3.cell? ⟨gE, 2, none⟩ = some (.string x.f2) := by rw [hW3]; exact (blk_cell hT1.be 2).trans rfl
                        rw [← hW3] at hT2 t2 hf2
                        have HW3 := Aside0.mk hW3
                        have HJ := Aside0.mk hj
                        have HT2 := Aside0.mk hT2
                        have F2 := Aside0.mk f2
                        have T2 := Aside0.mk t2
                        have FR := Aside0.mk hf2
                        have HTF := Aside0.mk hT1
                        clear hT0 hT1 hT2 hl hl1 hlt hm k4 ys1 ts2 yf tf t0 t1 t2 hj hW3 f2 hf2
                        go_upto_region 24 with (fail)
                        rw [← HW3.out]
                        have f2 := F2.out
                        have t2 := T2.out
                        have hf2 := FR.out
                        clear HW3 F2 T2 FR y0 y1 y2 e0 e1 e2 hf1
                        go_region
                        have hT9 : Tk w (W3.setCell ⟨go, m * 3 + 2, none⟩ (.string (l.f2 ++ x.f2))).drew g gO gE x a2 lO _ (.slice (some ⟨go, 0, none⟩) (m + 1) co) := HT2.out.drewN 1
                        have HT9 := Aside0.mk hT9
                        have e9 : (W3.setCell ⟨go, m * 3 + 2, none⟩ (.string (l.f2 ++ x.f2))).drew.cell? ⟨gE, 1, none⟩ = some (.int .i64 x.f1) := (blk_cell hT9.be 1).trans rfl
                        clear hT9 f2 t2 hf2
                        generalize (W3.setCell ⟨go, m * 3 + 2, none⟩ (.string (l.f2 ++ x.f2))).drew = W4 at HT9 e9 ⊢
                        go_wp2
                        obtain ⟨a', b', hMR, hlt⟩ := sym_next HSY.out HQ.out HBD.out HT9.out.b1 HT9.out.b2 (by rw [HJ.out]; exact Kd.R_mono HT9.out.ho (fun k hk => (sym_ok HSY.out k).2 hk.1)) HT9.out.hb (by rw [if_pos K2.out])
                        have HLT := Aside0.mk hlt
                        have HMR := Aside0.mk hMR
                        clear hlt hMR
                        go_roundg (a'.length + b'.length + 1)
                        case measure => have h1 := HLT.out; have h2 := HK.out; omega
                        case rel => exact ⟨a', b', _, _, _, rfl, rfl, ⟨rfl⟩, HMR⟩
                      · by_cases k5 : 0 < out.length
                        · have d5 : decide (0 < out.length) = true := decide_eq_true k5
                          have d4 : (x.f0 == en) = false := beq_eq_false_iff_ne.mpr (fun e => k4 ⟨k5, e⟩)
                          have hj : joinE out x = out ++ [x] := by
                            unfold joinE
                            rw [if_neg (fun h => k4 ⟨k5, by rw [HQ.out.la k5] at h; exact h.2.symm⟩)]
                          have HJ := Aside0.mk hj
                          clear k4 k5 hj
                          go_wp2_with (first | ((with_reducible refine gate_builtin (b := .append) (xs := #[.tmp 138, .tmp 140]) rfl ?_); at_builtin; refine Kd.R_append k42 (w0 := w) w.heap.size rfl (.tmp 138) (.tmp 140) 22 42 (.agg #[(.int .i64 0), (.int .i64 0), (.string ⟨#[]⟩)]) 32 rfl Try.underlying22 info42 rfl (by decide) (by omega) (.slice Ao out.length co) out (x : S42) [.int .i64 x.f0, .int .i64 x.f1, .string x.f2] (fun k => (k ≠ g ∧ k ≠ gO) ∧ k ≠ gE) (fun _ => False) rfl rfl ?aP (fun _ hk => hk.elim) ?aF ?aO ?aB ?aS ?aL ?_; (case aP => exact k42_mkM _ _ _ x); (case aB => exact HTK.out.hb); (case aF => exact tk_fresh HTK.out); (case aO => exact HTK.out.ho); (case aS => exact HTK.out.hb.size); (case aL => have := HQ.out.le; omega); intro v9 W3 ho hb hg hat; have HT9 := Aside0.mk (HTK.out.turn hg hb ho); have e9 : W3.cell? ⟨gE, 1, none⟩ = some (.int .i64 x.f1) := (blk_cell HT9.out.be 1).trans rfl; clear ho hb hg hat))
                          obtain ⟨a', b', hMR, hlt⟩ := sym_next HSY.out HQ.out HBD.out HT9.out.b1 HT9.out.b2 (by rw [HJ.out]; exact Kd.R_mono HT9.out.ho (fun k hk => (sym_ok HSY.out k).2 hk.1)) HT9.out.hb (by rw [if_pos K2.out])
                          have HLT := Aside0.mk hlt
                          have HMR := Aside0.mk hMR
                          clear hlt hMR
                          go_roundg (a'.length + b'.length + 1)
                          case measure => have h1 := HLT.out; have h2 := HK.out; omega
                          case rel => exact ⟨a', b', _, _, _, rfl, rfl, ⟨rfl⟩, HMR⟩
                        · have h0 : out = [] := List.eq_nil_of_length_eq_zero (by omega)
                          subst h0
                          clear k4 k5
                          go_wp2_with (first | ((with_reducible refine gate_builtin (b := .append) (xs := #[.tmp 138, .tmp 140]) rfl ?_); at_builtin; refine Kd.R_append k42 (w0 := w) w.heap.size rfl (.tmp 138) (.tmp 140) 22 42 (.agg #[(.int .i64 0), (.int .i64 0), (.string ⟨#[]⟩)]) 32 rfl Try.underlying22 info42 rfl (by decide) (by omega) (.slice Ao 0 co) ([] : List S42) (x : S42) [.int .i64 x.f0, .int .i64 x.f1, .string x.f2] (fun k => (k ≠ g ∧ k ≠ gO) ∧ k ≠ gE) (fun _ => False) rfl rfl ?aP (fun _ hk => hk.elim) ?aF ?aO ?aB ?aS ?aL ?_; (case aP => exact k42_mkM _ _ _ x); (case aB => exact HTK.out.hb); (case aF => exact tk_fresh HTK.out); (case aO => exact HTK.out.ho); (case aS => exact HTK.out.hb.size); (case aL => have := HQ.out.le; omega); intro v9 W3 ho hb hg hat; have HT9 := Aside0.mk (HTK.out.turn hg hb ho); have e9 : W3.cell? ⟨gE, 1, none⟩ = some (.int .i64 x.f1) := (blk_cell HT9.out.be 1).trans rfl; clear ho hb hg hat))
                          obtain ⟨a', b', hMR, hlt⟩ := sym_next HSY.out HQ.out HBD.out HT9.out.b1 HT9.out.b2 (by rw [show joinE [] x = [] ++ [x] from rfl]; exact Kd.R_mono HT9.out.ho (fun k hk => (sym_ok HSY.out k).2 hk.1)) HT9.out.hb (by rw [if_pos K2.out])
                          have HLT := Aside0.mk hlt
                          have HMR := Aside0.mk hMR
                          clear hlt hMR
                          go_roundg (a'.length + b'.length + 1)
                          case measure => have h1 := HLT.out; have h2 := HK.out; omega
                          case rel => exact ⟨a', b', _, _, _, rfl, rfl, ⟨rfl⟩, HMR⟩
                  · have d2 : (x.f0 == x.f1) = false := beq_eq_false_iff_ne.mpr k2
                    have K2 := Aside0.mk k2
                    clear k2
                    have hbd : ¬ (x.f0 < en ∨ (x.f0 = x.f1 ∧ x.f0 = pt)) := by have a1 := K1.out; have a2 := K2.out; omega
                    have HBD := Aside0.mk hbd
                    clear hbd
                    obtain ⟨Ao, co, eo⟩ := Kd.R_slice HTK.out.ho
                    subst eo
                    by_cases k4 : 0 < out.length ∧ x.f0 = en
                    · obtain ⟨m, hm⟩ : ∃ m, out.length = m + 1 := ⟨out.length - 1, by omega⟩
                      obtain ⟨go, co', eo', _, _, _⟩ := Kd.R_form HTK.out.ho k4.1
                      injection eo' with ea en' ec
                      subst ea
                      subst ec
                      clear en'
                      rw [hm]
                      have hT0 := HTK.out
                      rw [hm] at hT0
                      obtain ⟨l, hl⟩ : ∃ l, rd_T42 out (m : Int) = l := ⟨_, rfl⟩
                      obtain ⟨y0, y1, y2, yf, ys1, _⟩ := hT0.last hm l hl
                      have hT1 := ys1 x.f1
                      have hlt : m < out.length := by omega
                      have hmb : (m : Int) ≤ 200000 := by have := HQ.out.le; omega
                      have hmc : m ≤ 200000 := by have := HQ.out.le; omega
                      have hl1 : rd_T42 (out.set m ⟨l.f0, x.f1, l.f2⟩) (m : Int) = ⟨l.f0, x.f1, l.f2⟩ := by simp [rd_T42, hlt]
                      obtain ⟨t0, t1, t2, tf, _, ts2⟩ := hT1.last (by rw [List.length_set]; exact hm) _ hl1
                      have hT2 := ts2 (l.f2 ++ x.f2)
                      have hj : joinE out x = (out.set m ⟨l.f0, x.f1, l.f2⟩).set m ⟨l.f0, x.f1, l.f2 ++ x.f2⟩ := by
                        unfold joinE
                        have hq := HQ.out.la k4.1
                        rw [if_pos ⟨k4.1, by rw [hq]; exact k4.2.symm⟩, show out.length - 1 = m by omega, show (out.length : Int) - 1 = (m : Int) by omega, hl]
                        simp
                      have hsz2 : l.f2.size + x.f2.size ≤ 9223372036854775807 := by
                        have q1 := sz_mem hlt
                        have q2 := joinE_sz out x
                        have q3 : out[m] = l := by rw [← hl]; simp [rd_T42, hlt]
                        rw [q3] at q1
                        have q4 := sym_sz HSY.out HQ.out
                        omega
                      have d4 : (x.f0 == en) = true := beq_iff_eq.mpr k4.2
                      have hf1 := yf 1
                      have hf2 := tf 2
                      obtain ⟨W3, hW3⟩ : ∃ W, W = W2.setCell ⟨go, m * 3 + 1, none⟩ (.int .i64 x.f1) := ⟨_, rfl⟩
                      have f2 : W3.cell? ⟨gE, 2, none⟩ = some (.string x.f2) := by rw [hW3]; exact (blk_cell hT1.be 2).trans rfl
                      rw [← hW3] at hT2 t2 hf2
                      have HW3 := Aside0.mk hW3
                      have HJ := Aside0.mk hj
                      have HT2 := Aside0.mk hT2
                      have F2 := Aside0.mk f2
                      have T2 := Aside0.mk t2
                      have FR := Aside0.mk hf2
                      have HTF := Aside0.mk hT1
                      clear hT0 hT1 hT2 hl hl1 hlt hm k4 ys1 ts2 yf tf t0 t1 t2 hj hW3 f2 hf2
                      go_upto_region 24 with (fail)
                      rw [← HW3.out]
                      have f2 := F2.out
                      have t2 := T2.out
                      have hf2 := FR.out
                      clear HW3 F2 T2 FR y0 y1 y2 e0 e1 e2 hf1
                      go_region
                      have hT9 : Tk w (W3.setCell ⟨go, m * 3 + 2, none⟩ (.string (l.f2 ++ x.f2))).drew g gO gE x a2 lO _ (.slice (some ⟨go, 0, none⟩) (m + 1) co) := HT2.out.drewN 1
                      have HT9 := Aside0.mk hT9
                      have e9 : (W3.setCell ⟨go, m * 3 + 2, none⟩ (.string (l.f2 ++ x.f2))).drew.cell? ⟨gE, 1, none⟩ = some (.int .i64 x.f1) := (blk_cell hT9.be 1).trans rfl
                      clear hT9 f2 t2 hf2
                      generalize (W3.setCell ⟨go, m * 3 + 2, none⟩ (.string (l.f2 ++ x.f2))).drew = W4 at HT9 e9 ⊢
                      go_wp2
                      obtain ⟨a', b', hMR, hlt⟩ := sym_next HSY.out HQ.out HBD.out HT9.out.b1 HT9.out.b2 (by rw [HJ.out]; exact Kd.R_mono HT9.out.ho (fun k hk => (sym_ok HSY.out k).2 hk.1)) HT9.out.hb (by rw [if_neg K2.out])
                      have HLT := Aside0.mk hlt
                      have HMR := Aside0.mk hMR
                      clear hlt hMR
                      go_roundg (a'.length + b'.length + 1)
                      case measure => have h1 := HLT.out; have h2 := HK.out; omega
                      case rel => exact ⟨a', b', _, _, _, rfl, rfl, ⟨rfl⟩, HMR⟩
                    · by_cases k5 : 0 < out.length
                      · have d5 : decide (0 < out.length) = true := decide_eq_true k5
                        have d4 : (x.f0 == en) = false := beq_eq_false_iff_ne.mpr (fun e => k4 ⟨k5, e⟩)
                        have hj : joinE out x = out ++ [x] := by
                          unfold joinE
                          rw [if_neg (fun h => k4 ⟨k5, by rw [HQ.out.la k5] at h; exact h.2.symm⟩)]
                        have HJ := Aside0.mk hj
                        clear k4 k5 hj
                        go_wp2_with (first | ((with_reducible refine gate_builtin (b := .append) (xs := #[.tmp 138, .tmp 140]) rfl ?_); at_builtin; refine Kd.R_append k42 (w0 := w) w.heap.size rfl (.tmp 138) (.tmp 140) 22 42 (.agg #[(.int .i64 0), (.int .i64 0), (.string ⟨#[]⟩)]) 32 rfl Try.underlying22 info42 rfl (by decide) (by omega) (.slice Ao out.length co) out (x : S42) [.int .i64 x.f0, .int .i64 x.f1, .string x.f2] (fun k => (k ≠ g ∧ k ≠ gO) ∧ k ≠ gE) (fun _ => False) rfl rfl ?aP (fun _ hk => hk.elim) ?aF ?aO ?aB ?aS ?aL ?_; (case aP => exact k42_mkM _ _ _ x); (case aB => exact HTK.out.hb); (case aF => exact tk_fresh HTK.out); (case aO => exact HTK.out.ho); (case aS => exact HTK.out.hb.size); (case aL => have := HQ.out.le; omega); intro v9 W3 ho hb hg hat; have HT9 := Aside0.mk (HTK.out.turn hg hb ho); have e9 : W3.cell? ⟨gE, 1, none⟩ = some (.int .i64 x.f1) := (blk_cell HT9.out.be 1).trans rfl; clear ho hb hg hat))
                        obtain ⟨a', b', hMR, hlt⟩ := sym_next HSY.out HQ.out HBD.out HT9.out.b1 HT9.out.b2 (by rw [HJ.out]; exact Kd.R_mono HT9.out.ho (fun k hk => (sym_ok HSY.out k).2 hk.1)) HT9.out.hb (by rw [if_neg K2.out])
                        have HLT := Aside0.mk hlt
                        have HMR := Aside0.mk hMR
                        clear hlt hMR
                        go_roundg (a'.length + b'.length + 1)
                        case measure => have h1 := HLT.out; have h2 := HK.out; omega
                        case rel => exact ⟨a', b', _, _, _, rfl, rfl, ⟨rfl⟩, HMR⟩
                      · have h0 : out = [] := List.eq_nil_of_length_eq_zero (by omega)
                        subst h0
                        clear k4 k5
                        go_wp2_with (first | ((with_reducible refine gate_builtin (b := .append) (xs := #[.tmp 138, .tmp 140]) rfl ?_); at_builtin; refine Kd.R_append k42 (w0 := w) w.heap.size rfl (.tmp 138) (.tmp 140) 22 42 (.agg #[(.int .i64 0), (.int .i64 0), (.string ⟨#[]⟩)]) 32 rfl Try.underlying22 info42 rfl (by decide) (by omega) (.slice Ao 0 co) ([] : List S42) (x : S42) [.int .i64 x.f0, .int .i64 x.f1, .string x.f2] (fun k => (k ≠ g ∧ k ≠ gO) ∧ k ≠ gE) (fun _ => False) rfl rfl ?aP (fun _ hk => hk.elim) ?aF ?aO ?aB ?aS ?aL ?_; (case aP => exact k42_mkM _ _ _ x); (case aB => exact HTK.out.hb); (case aF => exact tk_fresh HTK.out); (case aO => exact HTK.out.ho); (case aS => exact HTK.out.hb.size); (case aL => have := HQ.out.le; omega); intro v9 W3 ho hb hg hat; have HT9 := Aside0.mk (HTK.out.turn hg hb ho); have e9 : W3.cell? ⟨gE, 1, none⟩ = some (.int .i64 x.f1) := (blk_cell HT9.out.be 1).trans rfl; clear ho hb hg hat))
                        obtain ⟨a', b', hMR, hlt⟩ := sym_next HSY.out HQ.out HBD.out HT9.out.b1 HT9.out.b2 (by rw [show joinE [] x = [] ++ [x] from rfl]; exact Kd.R_mono HT9.out.ho (fun k hk => (sym_ok HSY.out k).2 hk.1)) HT9.out.hb (by rw [if_neg K2.out])
                        have HLT := Aside0.mk hlt
                        have HMR := Aside0.mk hMR
                        clear hlt hMR
                        go_roundg (a'.length + b'.length + 1)
                        case measure => have h1 := HLT.out; have h2 := HK.out; omega
                        case rel => exact ⟨a', b', _, _, _, rfl, rfl, ⟨rfl⟩, HMR⟩
    · rw [if_neg q2] at HM'
      obtain ⟨rfl, rfl⟩ := Prod.mk.inj HM'
      have x2 : (e2 != 0) = true := bne_iff_ne.mpr q2
      clear HM'
      go_enter Try.func28, Try.ntmps28
      go_wp2_with (first | ((with_reducible refine gate_dst (N := 4) rfl ?_); refine box_event ?hg4 (N := 4) ?hd4 (cs := #[.slice A1 l1.length c1]) (t := 22) ?hr4 ?_; (case hd4 => rfl); (case hg4 => rfl); (case hr4 => first | (go_simp; done) | (go_simp; rfl)); intro g4 hg w1 hbox hb; have n0_ := Aside0.mk (below_step HB.out hb); have n1_ := Aside0.mk hbox; have GE4 := Aside0.mk (show w.heap.size ≤ g4 by rw [hg]; exact Nat.le_refl _); clear HB; have HB := n0_; have BK4 := n1_; clear n0_ n1_ hb hbox hg; have hcz4 : w1.cell? ⟨g4, 0, none⟩ = some (.slice A1 l1.length c1) := (blk_cell BK4.out 0).trans rfl) | ((with_reducible refine gate_dst (N := 5) rfl ?_); refine box_event ?hg5 (N := 5) ?hd5 (cs := #[.slice A2 l2.length c2]) (t := 22) ?hr5 ?_; (case hd5 => rfl); (case hg5 => rfl); (case hr5 => first | (go_simp; done) | (go_simp; rfl)); intro g5 hg w2 hbox hb; have n0_ := Aside0.mk (below_step HB.out hb); have n1_ := Aside0.mk hbox; have n2_ := Aside0.mk (blk_below BK4.out hb); have GE5 := Aside0.mk (show w.heap.size ≤ g5 by rw [hg]; exact HB.out.size); have N45 := Aside0.mk (show g5 ≠ g4 by rw [hg]; exact (Nat.ne_of_lt (blk_lt BK4.out)).symm); clear HB BK4 hcz4; have HB := n0_; have BK5 := n1_; have BK4 := n2_; clear n0_ n1_ n2_ hb hbox hg; have hcz4 : w2.cell? ⟨g4, 0, none⟩ = some (.slice A1 l1.length c1) := (blk_cell BK4.out 0).trans rfl) | ((with_reducible refine gate_callee (f := 16) rfl ?_); (with_reducible refine gate_dst (N := 19) rfl ?_); refine goesL_ (some 19) rfl rfl Try.func16 (by kernel_rfl) rfl #[.int .i64 a0, .slice A1 l1.length c1] rfl (by (try simp only [List.map_toArray, List.map_cons, List.map_nil]); first | done | rfl) ?_; (with_reducible refine (edits_Valid.calls k1 a0 A1 c1 l1 0 _ (Kd.C_below HR1.out HB.out) HC1.out HV1.out).mono ?_); rintro e w3 ⟨rfl, hb⟩; refine ⟨_, rfl, ?_⟩; have n0_ := Aside0.mk (below_step HB.out hb); have n1_ := Aside0.mk (blk_below BK4.out hb); have n2_ := Aside0.mk (blk_below BK5.out hb); clear HB BK4 BK5 hcz4 hb; have HB := n0_; have BK4 := n1_; have BK5 := n2_; clear n0_ n1_ n2_; have hcz5 : w3.cell? ⟨g5, 0, none⟩ = some (.slice A2 l2.length c2) := (blk_cell BK5.out 0).trans rfl) | ((with_reducible refine gate_callee (f := 16) rfl ?_); (with_reducible refine gate_dst (N := 25) rfl ?_); refine goesL_ (some 25) rfl rfl Try.func16 (by kernel_rfl) rfl #[.int .i64 a0, .slice A2 l2.length c2] rfl (by (try simp only [List.map_toArray, List.map_cons, List.map_nil]); first | done | rfl) ?_; (with_reducible refine (edits_Valid.calls k2 a0 A2 c2 l2 e2 _ (Kd.C_below HR2.out HB.out) HC2.out HV2.out).mono ?_); rintro e w4 ⟨rfl, hb⟩; refine ⟨_, rfl, ?_⟩; have n0_ := Aside0.mk (below_step HB.out hb); have n1_ := Aside0.mk (blk_below BK4.out hb); have n2_ := Aside0.mk (blk_below BK5.out hb); clear HB BK4 BK5 hcz5 hb; have HB := n0_; have BK4 := n1_; have BK5 := n2_; clear n0_ n1_ n2_))
      go_ret2
      exact ⟨_, rfl, Kd.R_nil _ _ _ _ _, HB.out⟩
  · rw [if_neg q1] at HM'
    obtain ⟨rfl, rfl⟩ := Prod.mk.inj HM'
    have x1 : (e1 != 0) = true := bne_iff_ne.mpr q1
    clear HM'
    go_enter Try.func28, Try.ntmps28
    go_wp2_with (first | ((with_reducible refine gate_dst (N := 4) rfl ?_); refine box_event ?hg4 (N := 4) ?hd4 (cs := #[.slice A1 l1.length c1]) (t := 22) ?hr4 ?_; (case hd4 => rfl); (case hg4 => rfl); (case hr4 => first | (go_simp; done) | (go_simp; rfl)); intro g4 hg w1 hbox hb; have n0_ := Aside0.mk (below_step HB.out hb); have n1_ := Aside0.mk hbox; have GE4 := Aside0.mk (show w.heap.size ≤ g4 by rw [hg]; exact Nat.le_refl _); clear HB; have HB := n0_; have BK4 := n1_; clear n0_ n1_ hb hbox hg; have hcz4 : w1.cell? ⟨g4, 0, none⟩ = some (.slice A1 l1.length c1) := (blk_cell BK4.out 0).trans rfl) | ((with_reducible refine gate_dst (N := 5) rfl ?_); refine box_event ?hg5 (N := 5) ?hd5 (cs := #[.slice A2 l2.length c2]) (t := 22) ?hr5 ?_; (case hd5 => rfl); (case hg5 => rfl); (case hr5 => first | (go_simp; done) | (go_simp; rfl)); intro g5 hg w2 hbox hb; have n0_ := Aside0.mk (below_step HB.out hb); have n1_ := Aside0.mk hbox; have n2_ := Aside0.mk (blk_below BK4.out hb); have GE5 := Aside0.mk (show w.heap.size ≤ g5 by rw [hg]; exact HB.out.size); have N45 := Aside0.mk (show g5 ≠ g4 by rw [hg]; exact (Nat.ne_of_lt (blk_lt BK4.out)).symm); clear HB BK4 hcz4; have HB := n0_; have BK5 := n1_; have BK4 := n2_; clear n0_ n1_ n2_ hb hbox hg; have hcz4 : w2.cell? ⟨g4, 0, none⟩ = some (.slice A1 l1.length c1) := (blk_cell BK4.out 0).trans rfl) | ((with_reducible refine gate_callee (f := 16) rfl ?_); (with_reducible refine gate_dst (N := 19) rfl ?_); refine goesL_ (some 19) rfl rfl Try.func16 (by kernel_rfl) rfl #[.int .i64 a0, .slice A1 l1.length c1] rfl (by (try simp only [List.map_toArray, List.map_cons, List.map_nil]); first | done | rfl) ?_; (with_reducible refine (edits_Valid.calls k1 a0 A1 c1 l1 e1 _ (Kd.C_below HR1.out HB.out) HC1.out HV1.out).mono ?_); rintro e w3 ⟨rfl, hb⟩; refine ⟨_, rfl, ?_⟩; have n0_ := Aside0.mk (below_step HB.out hb); have n1_ := Aside0.mk (blk_below BK4.out hb); have n2_ := Aside0.mk (blk_below BK5.out hb); clear HB BK4 BK5 hcz4 hb; have HB := n0_; have BK4 := n1_; have BK5 := n2_; clear n0_ n1_ n2_))
    go_ret2
    exact ⟨_, rfl, Kd.R_nil _ _ _ _ _, HB.out⟩
end Go.Proofs.Ytaihajmdngoeiaa.F
