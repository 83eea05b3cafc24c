/- Texts of the proof of one law (Arith), part 2: functions printed as Lean functions with their walks, and what is proved of them. Conditions: those of each theorem. -/
import Derived.Test.YteklmgmhkmdddaaDoorZArith1
import Derived.Lib.Strings
import Derived.Laws.BitsAllLaws
import Derived.Deep.DeepCutAuto
-- A text of this session's own program (wip/myprint.sh over a changed print tool): functions and their walks
namespace Go.Proofs.YteklmgmhkmdddaaDoor.S
open Go.RowKit Go.Proofs.YteklmgmhkmdddaaDoorW.PrintWords Go.Proofs.YteklmgmhkmdddaaDoorW.PrintLast Go.Proofs.YteklmgmhkmdddaaDoorW.PrintMore
attribute [local go_sem] max2_int min2_int max_two min_two max_three min_three max_four min_four   -- for this text's walks alone
set_option linter.unusedVariables false
set_option linter.unusedSimpArgs false

/-! ### consts_Binary: function 8 -/
def consts_Binary.j0 : Nat → Int → Bool → Int → Bool → Int → ByteArray → Int → Bool → Int → ByteArray → Option (Int × Bool × Int × ByteArray × Int)
  | 0, _, _, _, _, _, _, _, _, _, _ => none
  | k + 1, x0, x20, x149000, x149001, x149002, x149003, x150000, x150001, x150002, x150003 => if x20 = true then (some (0, false, 0, (⟨#[]⟩ : ByteArray), 1)) else (if x149000 = x150000 then (if x149000 = 2 then ((consts_numbers.f k x0 x149002 x150002).bind fun bt154 => (some (bt154.1, bt154.2.1, bt154.2.2.1, bt154.2.2.2.1, bt154.2.2.2.2))) else (if x149000 = 3 then ((consts_texts.f k x0 x149003 x150003).bind fun bt159 => (some (bt159.1, bt159.2.1, bt159.2.2.1, bt159.2.2.2.1, bt159.2.2.2.2))) else ((consts_bools.f x0 x149001 x150001).bind fun bt164 => (some (bt164.1, bt164.2.1, bt164.2.2.1, bt164.2.2.2.1, bt164.2.2.2.2))))) else (some (0, false, 0, (⟨#[]⟩ : ByteArray), 81)))
def consts_Binary.f (k : Nat) (a0 : Int) (a1_0 : Int) (a1_1 : Bool) (a1_2 : Int) (a1_3 : ByteArray) (a2_0 : Int) (a2_1 : Bool) (a2_2 : Int) (a2_3 : ByteArray) : Option (Int × Bool × Int × ByteArray × Int) := (consts_binary.f k a0).bind fun t151 => (if t151 = true then ((consts_right.f a1_0 a1_1 a1_2 a1_3).bind fun t152 => (if t152 = true then ((consts_right.f a2_0 a2_1 a2_2 a2_3).bind fun t153 => (consts_Binary.j0 k a0 (!t153) a1_0 a1_1 a1_2 a1_3 a2_0 a2_1 a2_2 a2_3)) else (consts_Binary.j0 k a0 true a1_0 a1_1 a1_2 a1_3 a2_0 a2_1 a2_2 a2_3))) else (consts_Binary.j0 k a0 true a1_0 a1_1 a1_2 a1_3 a2_0 a2_1 a2_2 a2_3))
set_option maxHeartbeats 8000000 in
set_option maxRecDepth 100000 in
theorem consts_Binary.calls (k : Nat) (a0 : Int) (a1_0 : Int) (a1_1 : Bool) (a1_2 : Int) (a1_3 : ByteArray) (a2_0 : Int) (a2_1 : Bool) (a2_2 : Int) (a2_3 : ByteArray) (r1 : Int) (r2 : Bool) (r3 : Int) (r4 : ByteArray) (r5 : Int) (w : World) (h : consts_Binary.f k a0 a1_0 a1_1 a1_2 a1_3 a2_0 a2_1 a2_2 a2_3 = some (r1, r2, r3, r4, r5)) (hs_ : SG w) :
    Calls Tryd.prog 8 #[.int .u8 a0, .agg #[.int .u8 a1_0, .bool a1_1, .int .i64 a1_2, .string a1_3], .agg #[.int .u8 a2_0, .bool a2_1, .int .i64 a2_2, .string a2_3]] w fun e w' => e = .returned (.tuple #[.agg #[.int .u8 r1, .bool r2, .int .i64 r3, .string r4], .int .i64 r5]) ∧ Below w.heap.size w w' := by
  have hu25 := Tryd.underlying25
  have HS := Aside0.mk hs_
  clear hs_
  have HB := Aside0.mk (Below.refl w.heap.size w)
  have H : ((consts_binary.f k a0).bind fun t151 => (if t151 = true then ((consts_right.f a1_0 a1_1 a1_2 a1_3).bind fun t152 => (if t152 = true then ((consts_right.f a2_0 a2_1 a2_2 a2_3).bind fun t153 => (consts_Binary.j0 k a0 (!t153) a1_0 a1_1 a1_2 a1_3 a2_0 a2_1 a2_2 a2_3)) else (consts_Binary.j0 k a0 true a1_0 a1_1 a1_2 a1_3 a2_0 a2_1 a2_2 a2_3))) else (consts_Binary.j0 k a0 true a1_0 a1_1 a1_2 a1_3 a2_0 a2_1 a2_2 a2_3))) = some (r1, r2, r3, r4, r5) := h
  clear h
  have HC4 := Aside0.mk H
  clear H
  go_enter Tryd.func8, Tryd.ntmps8
  go_upto_region 1 with (first | ((with_reducible refine gate_dst (N := 4) rfl ?_); refine box_event ?hg (N := 4) ?hd (cs := #[.int .u8 a1_0, .bool a1_1, .int .i64 a1_2, .string a1_3]) (t := 25) ?hr ?_; (case hd => rfl); (case hg => rfl); (case hr => first | (go_simp; done) | (go_simp; rfl)); intro gb148 hg w5 hbox hb; have n0_ := Aside0.mk (below_step (by repeat (first | (with_reducible first | exact HB.out | apply below_alloc | apply pw_below_drewN | apply below_drew1) | exact HB.out)) hb); have n1_ := Aside0.mk (hbox); have n2_ := Aside0.mk ((by rw [hg]; exact (below_size (by repeat (first | (with_reducible first | exact HB.out | apply below_alloc | apply pw_below_drewN | apply below_drew1) | exact HB.out))) : w.heap.size ≤ gb148)); have n3_ := Aside0.mk ((by rw [hg]; exact (below_size (by repeat (first | (with_reducible first | exact HB.out | apply below_alloc | apply pw_below_drewN | apply below_drew1) | exact HB.out))) : w.heap.size ≤ gb148)); clear HB; have HB := n0_; have BK148 := n1_; have GW148 := n2_; have GE148 := n3_; clear n0_ n1_ n2_ n3_; clear hb hbox hg) | ((with_reducible refine gate_dst (N := 5) rfl ?_); refine box_event ?hg (N := 5) ?hd (cs := #[.int .u8 a2_0, .bool a2_1, .int .i64 a2_2, .string a2_3]) (t := 25) ?hr ?_; (case hd => rfl); (case hg => rfl); (case hr => first | (go_simp; done) | (go_simp; rfl)); intro gb149 hg w6 hbox hb; have n0_ := Aside0.mk (blk_below (g := gb148) (o := .cells #[.int .u8 a1_0, .bool a1_1, .int .i64 a1_2, .string a1_3] 25 (0, 0)) (by (with_reducible repeat (first | refine blk_drewN ?_ _ | refine blk_drew ?_ | refine blk_alloc ?_ _)); exact BK148.out) hb); have n1_ := Aside0.mk (below_step (by repeat (first | (with_reducible first | exact HB.out | apply below_alloc | apply pw_below_drewN | apply below_drew1 | refine below_set ?_ GE148.out) | exact HB.out)) hb); have n2_ := Aside0.mk (hbox); have n3_ := Aside0.mk ((by rw [hg]; exact (below_size (by repeat (first | (with_reducible first | exact HB.out | apply below_alloc | apply pw_below_drewN | apply below_drew1 | refine below_set ?_ GE148.out) | exact HB.out))) : w.heap.size ≤ gb149)); have n4_ := Aside0.mk ((by rw [hg]; exact (below_size (by repeat (first | (with_reducible first | exact HB.out | apply below_alloc | apply pw_below_drewN | apply below_drew1 | refine below_set ?_ GE148.out) | exact HB.out))) : w.heap.size ≤ gb149)); have n5_ := Aside0.mk ((by rw [hg]; exact Nat.ne_of_lt (blk_lt (g := gb148) (o := .cells #[.int .u8 a1_0, .bool a1_1, .int .i64 a1_2, .string a1_3] 25 (0, 0)) (by (with_reducible repeat (first | refine blk_drewN ?_ _ | refine blk_drew ?_ | refine blk_alloc ?_ _)); exact BK148.out)) : gb148 ≠ gb149)); have n6_ := Aside0.mk ((by rw [hg]; exact Nat.ne_of_gt (blk_lt (g := gb148) (o := .cells #[.int .u8 a1_0, .bool a1_1, .int .i64 a1_2, .string a1_3] 25 (0, 0)) (by (with_reducible repeat (first | refine blk_drewN ?_ _ | refine blk_drew ?_ | refine blk_alloc ?_ _)); exact BK148.out)) : gb149 ≠ gb148)); clear BK148; clear HB; have BK148 := n0_; have HB := n1_; have BK149 := n2_; have GW149 := n3_; have GE149 := n4_; have NB148_149 := n5_; have NB149_148 := n6_; clear n0_ n1_ n2_ n3_ n4_ n5_ n6_; clear hb hbox hg) | ((with_reducible refine gate_dst (N := 6) rfl ?_); refine box_event ?hg (N := 6) ?hd (cs := #[.int .u8 0, .bool false, .int .i64 0, .string (⟨#[]⟩ : ByteArray)]) (t := 25) ?hr ?_; (case hd => rfl); (case hg => rfl); (case hr => first | (go_simp; done) | (go_simp; rfl)); intro gb150 hg w7 hbox hb; have n0_ := Aside0.mk (blk_below (g := gb148) (o := .cells #[.int .u8 a1_0, .bool a1_1, .int .i64 a1_2, .string a1_3] 25 (0, 0)) (by (with_reducible repeat (first | refine blk_drewN ?_ _ | refine blk_drew ?_ | refine blk_alloc ?_ _)); exact BK148.out) hb); have n1_ := Aside0.mk (blk_below (g := gb149) (o := .cells #[.int .u8 a2_0, .bool a2_1, .int .i64 a2_2, .string a2_3] 25 (0, 0)) (by (with_reducible repeat (first | refine blk_drewN ?_ _ | refine blk_drew ?_ | refine blk_alloc ?_ _)); exact BK149.out) hb); have n2_ := Aside0.mk (below_step (by repeat (first | (with_reducible first | exact HB.out | apply below_alloc | apply pw_below_drewN | apply below_drew1 | refine below_set ?_ GE148.out | refine below_set ?_ GE149.out) | exact HB.out)) hb); have n3_ := Aside0.mk (hbox); have n4_ := Aside0.mk ((by rw [hg]; exact (below_size (by repeat (first | (with_reducible first | exact HB.out | apply below_alloc | apply pw_below_drewN | apply below_drew1 | refine below_set ?_ GE148.out | refine below_set ?_ GE149.out) | exact HB.out))) : w.heap.size ≤ gb150)); have n5_ := Aside0.mk ((by rw [hg]; exact (below_size (by repeat (first | (with_reducible first | exact HB.out | apply below_alloc | apply pw_below_drewN | apply below_drew1 | refine below_set ?_ GE148.out | refine below_set ?_ GE149.out) | exact HB.out))) : w.heap.size ≤ gb150)); have n6_ := Aside0.mk ((by rw [hg]; exact Nat.ne_of_lt (blk_lt (g := gb148) (o := .cells #[.int .u8 a1_0, .bool a1_1, .int .i64 a1_2, .string a1_3] 25 (0, 0)) (by (with_reducible repeat (first | refine blk_drewN ?_ _ | refine blk_drew ?_ | refine blk_alloc ?_ _)); exact BK148.out)) : gb148 ≠ gb150)); have n7_ := Aside0.mk ((by rw [hg]; exact Nat.ne_of_gt (blk_lt (g := gb148) (o := .cells #[.int .u8 a1_0, .bool a1_1, .int .i64 a1_2, .string a1_3] 25 (0, 0)) (by (with_reducible repeat (first | refine blk_drewN ?_ _ | refine blk_drew ?_ | refine blk_alloc ?_ _)); exact BK148.out)) : gb150 ≠ gb148)); have n8_ := Aside0.mk ((by rw [hg]; exact Nat.ne_of_lt (blk_lt (g := gb149) (o := .cells #[.int .u8 a2_0, .bool a2_1, .int .i64 a2_2, .string a2_3] 25 (0, 0)) (by (with_reducible repeat (first | refine blk_drewN ?_ _ | refine blk_drew ?_ | refine blk_alloc ?_ _)); exact BK149.out)) : gb149 ≠ gb150)); have n9_ := Aside0.mk ((by rw [hg]; exact Nat.ne_of_gt (blk_lt (g := gb149) (o := .cells #[.int .u8 a2_0, .bool a2_1, .int .i64 a2_2, .string a2_3] 25 (0, 0)) (by (with_reducible repeat (first | refine blk_drewN ?_ _ | refine blk_drew ?_ | refine blk_alloc ?_ _)); exact BK149.out)) : gb150 ≠ gb149)); clear BK148; clear BK149; clear HB; have BK148 := n0_; have BK149 := n1_; have HB := n2_; have BK150 := n3_; have GW150 := n4_; have GE150 := n5_; have NB148_150 := n6_; have NB150_148 := n7_; have NB149_150 := n8_; have NB150_149 := n9_; clear n0_ n1_ n2_ n3_ n4_ n5_ n6_ n7_ n8_ n9_; clear hb hbox hg))
  (try simp only [Act.put, List.setIfInBounds_toArray, List.set_cons_zero, List.set_cons_succ])
  go_cut [20] (fun v20 wc => ∃ (kq : Nat) (x20_3 : Bool), v20 = .bool x20_3 ∧ Aside0 (consts_Binary.j0 kq a0 x20_3 a1_0 a1_1 a1_2 a1_3 a2_0 a2_1 a2_2 a2_3 = some (r1, r2, r3, r4, r5)) ∧ Aside0 (kq ≤ k) ∧ Aside0 (wc.heap[gb148]? = some (.cells #[.int .u8 a1_0, .bool a1_1, .int .i64 a1_2, .string a1_3] 25 (0, 0))) ∧ Aside0 (wc.heap[gb149]? = some (.cells #[.int .u8 a2_0, .bool a2_1, .int .i64 a2_2, .string a2_3] 25 (0, 0))) ∧ Aside0 (wc.heap[gb150]? = some (.cells #[.int .u8 0, .bool false, .int .i64 0, .string (⟨#[]⟩ : ByteArray)] 25 (0, 0))) ∧ Aside0 (Below w.heap.size w wc))
  case first =>
    have H := HC4.out
    clear HC4
    replace H := Option.bind_eq_some_iff.mp H
    obtain ⟨t151, A80, H⟩ := H
    replace H : (if t151 = true then ((consts_right.f a1_0 a1_1 a1_2 a1_3).bind fun t152 => (if t152 = true then ((consts_right.f a2_0 a2_1 a2_2 a2_3).bind fun t153 => (consts_Binary.j0 k a0 (!t153) a1_0 a1_1 a1_2 a1_3 a2_0 a2_1 a2_2 a2_3)) else (consts_Binary.j0 k a0 true a1_0 a1_1 a1_2 a1_3 a2_0 a2_1 a2_2 a2_3))) else (consts_Binary.j0 k a0 true a1_0 a1_1 a1_2 a1_3 a2_0 a2_1 a2_2 a2_3)) = some (r1, r2, r3, r4, r5) := H
    have A8 := Aside0.mk A80
    clear A80
    by_cases c9 : t151 = true
    · subst c9
      have H1 : ((consts_right.f a1_0 a1_1 a1_2 a1_3).bind fun t152 => (if t152 = true then ((consts_right.f a2_0 a2_1 a2_2 a2_3).bind fun t153 => (consts_Binary.j0 k a0 (!t153) a1_0 a1_1 a1_2 a1_3 a2_0 a2_1 a2_2 a2_3)) else (consts_Binary.j0 k a0 true a1_0 a1_1 a1_2 a1_3 a2_0 a2_1 a2_2 a2_3))) = some (r1, r2, r3, r4, r5) := by rw [if_pos rfl] at H; exact H
      clear H
      have H := H1
      clear H1
      replace H := Option.bind_eq_some_iff.mp H
      obtain ⟨t152, A100, H⟩ := H
      replace H : (if t152 = true then ((consts_right.f a2_0 a2_1 a2_2 a2_3).bind fun t153 => (consts_Binary.j0 k a0 (!t153) a1_0 a1_1 a1_2 a1_3 a2_0 a2_1 a2_2 a2_3)) else (consts_Binary.j0 k a0 true a1_0 a1_1 a1_2 a1_3 a2_0 a2_1 a2_2 a2_3)) = some (r1, r2, r3, r4, r5) := H
      have A10 := Aside0.mk A100
      clear A100
      by_cases c11 : t152 = true
      · subst c11
        have H1 : ((consts_right.f a2_0 a2_1 a2_2 a2_3).bind fun t153 => (consts_Binary.j0 k a0 (!t153) a1_0 a1_1 a1_2 a1_3 a2_0 a2_1 a2_2 a2_3)) = some (r1, r2, r3, r4, r5) := by rw [if_pos rfl] at H; exact H
        clear H
        have H := H1
        clear H1
        replace H := Option.bind_eq_some_iff.mp H
        obtain ⟨t153, A120, H⟩ := H
        replace H : (consts_Binary.j0 k a0 (!t153) a1_0 a1_1 a1_2 a1_3 a2_0 a2_1 a2_2 a2_3) = some (r1, r2, r3, r4, r5) := H
        have A12 := Aside0.mk A120
        clear A120
        have H' := Aside0.mk H
        clear H
        go_wp2_with (first | ((with_reducible refine gate_callee (f := 16) rfl ?_); refine goesL_ (some 9) rfl rfl Tryd.func16 (by kernel_rfl) rfl #[.int .u8 a0] rfl (by (try simp only [List.map_toArray, List.map_cons, List.map_nil]); first | done | rfl | (simp only [List.length_drop, List.length_take]; rfl)) ?_; (with_reducible refine (consts_binary.calls k a0 true _ A8.out (SG.grow HS.out (by repeat (first | (with_reducible first | exact HB.out | apply below_alloc | apply pw_below_drewN | apply below_drew1 | refine below_set ?_ GE148.out | refine below_set ?_ GE149.out | refine below_set ?_ GE150.out) | exact HB.out)))).mono ?_); rintro e w13 ⟨rfl, hb⟩; refine ⟨_, rfl, ?_⟩; have n0_ := Aside0.mk (blk_below (g := gb148) (o := .cells #[.int .u8 a1_0, .bool a1_1, .int .i64 a1_2, .string a1_3] 25 (0, 0)) (by (with_reducible repeat (first | refine blk_drewN ?_ _ | refine blk_drew ?_ | refine blk_alloc ?_ _)); exact BK148.out) hb); have n1_ := Aside0.mk (blk_below (g := gb149) (o := .cells #[.int .u8 a2_0, .bool a2_1, .int .i64 a2_2, .string a2_3] 25 (0, 0)) (by (with_reducible repeat (first | refine blk_drewN ?_ _ | refine blk_drew ?_ | refine blk_alloc ?_ _)); exact BK149.out) hb); have n2_ := Aside0.mk (blk_below (g := gb150) (o := .cells #[.int .u8 0, .bool false, .int .i64 0, .string (⟨#[]⟩ : ByteArray)] 25 (0, 0)) (by (with_reducible repeat (first | refine blk_drewN ?_ _ | refine blk_drew ?_ | refine blk_alloc ?_ _)); exact BK150.out) hb); have n3_ := Aside0.mk (below_step (by repeat (first | (with_reducible first | exact HB.out | apply below_alloc | apply pw_below_drewN | apply below_drew1 | refine below_set ?_ GE148.out | refine below_set ?_ GE149.out | refine below_set ?_ GE150.out) | exact HB.out)) hb); clear BK148; clear BK149; clear BK150; clear HB; have BK148 := n0_; have BK149 := n1_; have BK150 := n2_; have HB := n3_; clear n0_ n1_ n2_ n3_; (try clear hb); (try clear hb2); (try clear hk); (try clear hi); have hnb14 := NB148_149.out; have hnc14 := NB149_148.out; have hnb15 := NB148_150.out; have hnc15 := NB150_148.out; have hcz16_0 : w13.cell? ⟨gb148, 0, none⟩ = some (.int .u8 a1_0) := (blk_cell BK148.out 0).trans rfl; have hcz16_1 : w13.cell? ⟨gb148, 1, none⟩ = some (.bool a1_1) := (blk_cell BK148.out 1).trans rfl; have hcz16_2 : w13.cell? ⟨gb148, 2, none⟩ = some (.int .i64 a1_2) := (blk_cell BK148.out 2).trans rfl; have hcz16_3 : w13.cell? ⟨gb148, 3, none⟩ = some (.string a1_3) := (blk_cell BK148.out 3).trans rfl; have hfz16_0 := blk_frozen BK148.out 0; have hfz16_1 := blk_frozen BK148.out 1; have hfz16_2 := blk_frozen BK148.out 2; have hfz16_3 := blk_frozen BK148.out 3) | (go_at_call 17; (with_reducible refine (consts_right.calls a1_0 a1_1 a1_2 a1_3 true _ A10.out).mono ?_); rintro e w17 ⟨rfl, hb⟩; have n0_ := Aside0.mk (blk_below (g := gb148) (o := .cells #[.int .u8 a1_0, .bool a1_1, .int .i64 a1_2, .string a1_3] 25 (0, 0)) (by (with_reducible repeat (first | refine blk_drewN ?_ _ | refine blk_drew ?_ | refine blk_alloc ?_ _)); exact BK148.out) hb); have n1_ := Aside0.mk (blk_below (g := gb149) (o := .cells #[.int .u8 a2_0, .bool a2_1, .int .i64 a2_2, .string a2_3] 25 (0, 0)) (by (with_reducible repeat (first | refine blk_drewN ?_ _ | refine blk_drew ?_ | refine blk_alloc ?_ _)); exact BK149.out) hb); have n2_ := Aside0.mk (blk_below (g := gb150) (o := .cells #[.int .u8 0, .bool false, .int .i64 0, .string (⟨#[]⟩ : ByteArray)] 25 (0, 0)) (by (with_reducible repeat (first | refine blk_drewN ?_ _ | refine blk_drew ?_ | refine blk_alloc ?_ _)); exact BK150.out) hb); have n3_ := Aside0.mk (below_step (by repeat (first | (with_reducible first | exact HB.out | apply below_alloc | apply pw_below_drewN | apply below_drew1 | refine below_set ?_ GE148.out | refine below_set ?_ GE149.out | refine below_set ?_ GE150.out) | exact HB.out)) hb); clear BK148; clear BK149; clear BK150; clear HB; have BK148 := n0_; have BK149 := n1_; have BK150 := n2_; have HB := n3_; clear n0_ n1_ n2_ n3_; (try clear hb); (try clear hb2); (try clear hk); (try clear hi); have hnb18 := NB149_150.out; have hnc18 := NB150_149.out; have hcz19_0 : w17.cell? ⟨gb149, 0, none⟩ = some (.int .u8 a2_0) := (blk_cell BK149.out 0).trans rfl; have hcz19_1 : w17.cell? ⟨gb149, 1, none⟩ = some (.bool a2_1) := (blk_cell BK149.out 1).trans rfl; have hcz19_2 : w17.cell? ⟨gb149, 2, none⟩ = some (.int .i64 a2_2) := (blk_cell BK149.out 2).trans rfl; have hcz19_3 : w17.cell? ⟨gb149, 3, none⟩ = some (.string a2_3) := (blk_cell BK149.out 3).trans rfl; have hfz19_0 := blk_frozen BK149.out 0; have hfz19_1 := blk_frozen BK149.out 1; have hfz19_2 := blk_frozen BK149.out 2; have hfz19_3 := blk_frozen BK149.out 3) | (go_at_call 17; (with_reducible refine (consts_right.calls a2_0 a2_1 a2_2 a2_3 t153 _ A12.out).mono ?_); rintro e w20 ⟨rfl, hb⟩; have n0_ := Aside0.mk (blk_below (g := gb148) (o := .cells #[.int .u8 a1_0, .bool a1_1, .int .i64 a1_2, .string a1_3] 25 (0, 0)) (by (with_reducible repeat (first | refine blk_drewN ?_ _ | refine blk_drew ?_ | refine blk_alloc ?_ _)); exact BK148.out) hb); have n1_ := Aside0.mk (blk_below (g := gb149) (o := .cells #[.int .u8 a2_0, .bool a2_1, .int .i64 a2_2, .string a2_3] 25 (0, 0)) (by (with_reducible repeat (first | refine blk_drewN ?_ _ | refine blk_drew ?_ | refine blk_alloc ?_ _)); exact BK149.out) hb); have n2_ := Aside0.mk (blk_below (g := gb150) (o := .cells #[.int .u8 0, .bool false, .int .i64 0, .string (⟨#[]⟩ : ByteArray)] 25 (0, 0)) (by (with_reducible repeat (first | refine blk_drewN ?_ _ | refine blk_drew ?_ | refine blk_alloc ?_ _)); exact BK150.out) hb); have n3_ := Aside0.mk (below_step (by repeat (first | (with_reducible first | exact HB.out | apply below_alloc | apply pw_below_drewN | apply below_drew1 | refine below_set ?_ GE148.out | refine below_set ?_ GE149.out | refine below_set ?_ GE150.out) | exact HB.out)) hb); clear BK148; clear BK149; clear BK150; clear HB; have BK148 := n0_; have BK149 := n1_; have BK150 := n2_; have HB := n3_; clear n0_ n1_ n2_ n3_; (try clear hb); (try clear hb2); (try clear hk); (try clear hi)))
        go_meet
        case rel => exact ⟨_, (!t153), (by first | rfl | (simp; done) | (simp [*]; done)), H', ⟨by first | omega | exact Nat.le_refl _⟩, ⟨by (with_reducible repeat (first | refine blk_drewN ?_ _ | refine blk_drew ?_ | refine blk_alloc ?_ _)); exact BK148.out⟩, ⟨by (with_reducible repeat (first | refine blk_drewN ?_ _ | refine blk_drew ?_ | refine blk_alloc ?_ _)); exact BK149.out⟩, ⟨by (with_reducible repeat (first | refine blk_drewN ?_ _ | refine blk_drew ?_ | refine blk_alloc ?_ _)); exact BK150.out⟩, ⟨by repeat (first | (with_reducible first | exact HB.out | apply below_alloc | apply pw_below_drewN | apply below_drew1 | refine below_set ?_ GE148.out | refine below_set ?_ GE149.out | refine below_set ?_ GE150.out) | exact HB.out)⟩⟩
      · replace c11 := Bool.eq_false_iff.mpr c11
        subst c11
        have H1 : (consts_Binary.j0 k a0 true a1_0 a1_1 a1_2 a1_3 a2_0 a2_1 a2_2 a2_3) = some (r1, r2, r3, r4, r5) := by rw [if_neg (show ¬ (false = true) by decide)] at H; exact H
        clear H
        have H := H1
        clear H1
        have H' := Aside0.mk H
        clear H
        go_wp2_with (first | ((with_reducible refine gate_callee (f := 16) rfl ?_); refine goesL_ (some 9) rfl rfl Tryd.func16 (by kernel_rfl) rfl #[.int .u8 a0] rfl (by (try simp only [List.map_toArray, List.map_cons, List.map_nil]); first | done | rfl | (simp only [List.length_drop, List.length_take]; rfl)) ?_; (with_reducible refine (consts_binary.calls k a0 true _ A8.out (SG.grow HS.out (by repeat (first | (with_reducible first | exact HB.out | apply below_alloc | apply pw_below_drewN | apply below_drew1 | refine below_set ?_ GE148.out | refine below_set ?_ GE149.out | refine below_set ?_ GE150.out) | exact HB.out)))).mono ?_); rintro e w21 ⟨rfl, hb⟩; refine ⟨_, rfl, ?_⟩; have n0_ := Aside0.mk (blk_below (g := gb148) (o := .cells #[.int .u8 a1_0, .bool a1_1, .int .i64 a1_2, .string a1_3] 25 (0, 0)) (by (with_reducible repeat (first | refine blk_drewN ?_ _ | refine blk_drew ?_ | refine blk_alloc ?_ _)); exact BK148.out) hb); have n1_ := Aside0.mk (blk_below (g := gb149) (o := .cells #[.int .u8 a2_0, .bool a2_1, .int .i64 a2_2, .string a2_3] 25 (0, 0)) (by (with_reducible repeat (first | refine blk_drewN ?_ _ | refine blk_drew ?_ | refine blk_alloc ?_ _)); exact BK149.out) hb); have n2_ := Aside0.mk (blk_below (g := gb150) (o := .cells #[.int .u8 0, .bool false, .int .i64 0, .string (⟨#[]⟩ : ByteArray)] 25 (0, 0)) (by (with_reducible repeat (first | refine blk_drewN ?_ _ | refine blk_drew ?_ | refine blk_alloc ?_ _)); exact BK150.out) hb); have n3_ := Aside0.mk (below_step (by repeat (first | (with_reducible first | exact HB.out | apply below_alloc | apply pw_below_drewN | apply below_drew1 | refine below_set ?_ GE148.out | refine below_set ?_ GE149.out | refine below_set ?_ GE150.out) | exact HB.out)) hb); clear BK148; clear BK149; clear BK150; clear HB; have BK148 := n0_; have BK149 := n1_; have BK150 := n2_; have HB := n3_; clear n0_ n1_ n2_ n3_; (try clear hb); (try clear hb2); (try clear hk); (try clear hi); have hnb22 := NB148_149.out; have hnc22 := NB149_148.out; have hnb23 := NB148_150.out; have hnc23 := NB150_148.out; have hcz24_0 : w21.cell? ⟨gb148, 0, none⟩ = some (.int .u8 a1_0) := (blk_cell BK148.out 0).trans rfl; have hcz24_1 : w21.cell? ⟨gb148, 1, none⟩ = some (.bool a1_1) := (blk_cell BK148.out 1).trans rfl; have hcz24_2 : w21.cell? ⟨gb148, 2, none⟩ = some (.int .i64 a1_2) := (blk_cell BK148.out 2).trans rfl; have hcz24_3 : w21.cell? ⟨gb148, 3, none⟩ = some (.string a1_3) := (blk_cell BK148.out 3).trans rfl; have hfz24_0 := blk_frozen BK148.out 0; have hfz24_1 := blk_frozen BK148.out 1; have hfz24_2 := blk_frozen BK148.out 2; have hfz24_3 := blk_frozen BK148.out 3) | (go_at_call 17; (with_reducible refine (consts_right.calls a1_0 a1_1 a1_2 a1_3 false _ A10.out).mono ?_); rintro e w25 ⟨rfl, hb⟩; have n0_ := Aside0.mk (blk_below (g := gb148) (o := .cells #[.int .u8 a1_0, .bool a1_1, .int .i64 a1_2, .string a1_3] 25 (0, 0)) (by (with_reducible repeat (first | refine blk_drewN ?_ _ | refine blk_drew ?_ | refine blk_alloc ?_ _)); exact BK148.out) hb); have n1_ := Aside0.mk (blk_below (g := gb149) (o := .cells #[.int .u8 a2_0, .bool a2_1, .int .i64 a2_2, .string a2_3] 25 (0, 0)) (by (with_reducible repeat (first | refine blk_drewN ?_ _ | refine blk_drew ?_ | refine blk_alloc ?_ _)); exact BK149.out) hb); have n2_ := Aside0.mk (blk_below (g := gb150) (o := .cells #[.int .u8 0, .bool false, .int .i64 0, .string (⟨#[]⟩ : ByteArray)] 25 (0, 0)) (by (with_reducible repeat (first | refine blk_drewN ?_ _ | refine blk_drew ?_ | refine blk_alloc ?_ _)); exact BK150.out) hb); have n3_ := Aside0.mk (below_step (by repeat (first | (with_reducible first | exact HB.out | apply below_alloc | apply pw_below_drewN | apply below_drew1 | refine below_set ?_ GE148.out | refine below_set ?_ GE149.out | refine below_set ?_ GE150.out) | exact HB.out)) hb); clear BK148; clear BK149; clear BK150; clear HB; have BK148 := n0_; have BK149 := n1_; have BK150 := n2_; have HB := n3_; clear n0_ n1_ n2_ n3_; (try clear hb); (try clear hb2); (try clear hk); (try clear hi)))
        go_meet
        case rel => exact ⟨_, (true), (by first | rfl | (simp; done) | (simp [*]; done)), H', ⟨by first | omega | exact Nat.le_refl _⟩, ⟨by (with_reducible repeat (first | refine blk_drewN ?_ _ | refine blk_drew ?_ | refine blk_alloc ?_ _)); exact BK148.out⟩, ⟨by (with_reducible repeat (first | refine blk_drewN ?_ _ | refine blk_drew ?_ | refine blk_alloc ?_ _)); exact BK149.out⟩, ⟨by (with_reducible repeat (first | refine blk_drewN ?_ _ | refine blk_drew ?_ | refine blk_alloc ?_ _)); exact BK150.out⟩, ⟨by repeat (first | (with_reducible first | exact HB.out | apply below_alloc | apply pw_below_drewN | apply below_drew1 | refine below_set ?_ GE148.out | refine below_set ?_ GE149.out | refine below_set ?_ GE150.out) | exact HB.out)⟩⟩
    · replace c9 := Bool.eq_false_iff.mpr c9
      subst c9
      have H1 : (consts_Binary.j0 k a0 true a1_0 a1_1 a1_2 a1_3 a2_0 a2_1 a2_2 a2_3) = some (r1, r2, r3, r4, r5) := by rw [if_neg (show ¬ (false = true) by decide)] at H; exact H
      clear H
      have H := H1
      clear H1
      have H' := Aside0.mk H
      clear H
      go_wp2_with (first | ((with_reducible refine gate_callee (f := 16) rfl ?_); refine goesL_ (some 9) rfl rfl Tryd.func16 (by kernel_rfl) rfl #[.int .u8 a0] rfl (by (try simp only [List.map_toArray, List.map_cons, List.map_nil]); first | done | rfl | (simp only [List.length_drop, List.length_take]; rfl)) ?_; (with_reducible refine (consts_binary.calls k a0 false _ A8.out (SG.grow HS.out (by repeat (first | (with_reducible first | exact HB.out | apply below_alloc | apply pw_below_drewN | apply below_drew1 | refine below_set ?_ GE148.out | refine below_set ?_ GE149.out | refine below_set ?_ GE150.out) | exact HB.out)))).mono ?_); rintro e w26 ⟨rfl, hb⟩; refine ⟨_, rfl, ?_⟩; have n0_ := Aside0.mk (blk_below (g := gb148) (o := .cells #[.int .u8 a1_0, .bool a1_1, .int .i64 a1_2, .string a1_3] 25 (0, 0)) (by (with_reducible repeat (first | refine blk_drewN ?_ _ | refine blk_drew ?_ | refine blk_alloc ?_ _)); exact BK148.out) hb); have n1_ := Aside0.mk (blk_below (g := gb149) (o := .cells #[.int .u8 a2_0, .bool a2_1, .int .i64 a2_2, .string a2_3] 25 (0, 0)) (by (with_reducible repeat (first | refine blk_drewN ?_ _ | refine blk_drew ?_ | refine blk_alloc ?_ _)); exact BK149.out) hb); have n2_ := Aside0.mk (blk_below (g := gb150) (o := .cells #[.int .u8 0, .bool false, .int .i64 0, .string (⟨#[]⟩ : ByteArray)] 25 (0, 0)) (by (with_reducible repeat (first | refine blk_drewN ?_ _ | refine blk_drew ?_ | refine blk_alloc ?_ _)); exact BK150.out) hb); have n3_ := Aside0.mk (below_step (by repeat (first | (with_reducible first | exact HB.out | apply below_alloc | apply pw_below_drewN | apply below_drew1 | refine below_set ?_ GE148.out | refine below_set ?_ GE149.out | refine below_set ?_ GE150.out) | exact HB.out)) hb); clear BK148; clear BK149; clear BK150; clear HB; have BK148 := n0_; have BK149 := n1_; have BK150 := n2_; have HB := n3_; clear n0_ n1_ n2_ n3_; (try clear hb); (try clear hb2); (try clear hk); (try clear hi)))
      go_meet
      case rel => exact ⟨_, (true), (by first | rfl | (simp; done) | (simp [*]; done)), H', ⟨by first | omega | exact Nat.le_refl _⟩, ⟨by (with_reducible repeat (first | refine blk_drewN ?_ _ | refine blk_drew ?_ | refine blk_alloc ?_ _)); exact BK148.out⟩, ⟨by (with_reducible repeat (first | refine blk_drewN ?_ _ | refine blk_drew ?_ | refine blk_alloc ?_ _)); exact BK149.out⟩, ⟨by (with_reducible repeat (first | refine blk_drewN ?_ _ | refine blk_drew ?_ | refine blk_alloc ?_ _)); exact BK150.out⟩, ⟨by repeat (first | (with_reducible first | exact HB.out | apply below_alloc | apply pw_below_drewN | apply below_drew1 | refine below_set ?_ GE148.out | refine below_set ?_ GE149.out | refine below_set ?_ GE150.out) | exact HB.out)⟩⟩
  case rest =>
    clear HC4
    try clear c1
    try clear c2
    try clear p2
    try clear c8
    try clear c9
    try clear c11
    try clear c14
    try clear c15
    try clear c16
    try clear c18
    try clear c22
    try clear c23
    try clear hcz16_0
    try clear hcz16_1
    try clear hcz16_2
    try clear hcz16_3
    try clear hcz19_0
    try clear hcz19_1
    try clear hcz19_2
    try clear hcz19_3
    try clear hcz24_0
    try clear hcz24_1
    try clear hcz24_2
    try clear hcz24_3
    try clear hfz16_0
    try clear hfz16_1
    try clear hfz16_2
    try clear hfz16_3
    try clear hfz19_0
    try clear hfz19_1
    try clear hfz19_2
    try clear hfz19_3
    try clear hfz24_0
    try clear hfz24_1
    try clear hfz24_2
    try clear hfz24_3
    obtain ⟨kq, x20_3, rfl, HA, HJ3, BK148, BK149, BK150, HB⟩ := hcut
    cases kq with
    | zero => exact absurd HA.out (by simp [consts_Binary.j0])
    | succ kj3 =>
      have H := HA.out
      clear HA
      simp only [consts_Binary.j0] at H
      by_cases c27 : x20_3 = true
      · subst c27
        have H1 : (some (0, false, 0, (⟨#[]⟩ : ByteArray), 1)) = some (r1, r2, r3, r4, r5) := by rw [if_pos rfl] at H; exact H
        clear H
        have H := H1
        clear H1
        simp only [Option.some.injEq, Prod.mk.injEq] at H
        obtain ⟨rfl, rfl, rfl, rfl, rfl⟩ := H
        have hnb28 := NB150_148.out
        have hnc28 := NB148_150.out
        have hnb29 := NB150_149.out
        have hnc29 := NB149_150.out
        have hcz30_0 : wc.cell? ⟨gb150, 0, none⟩ = some (.int .u8 0) := (blk_cell BK150.out 0).trans rfl
        have hcz30_1 : wc.cell? ⟨gb150, 1, none⟩ = some (.bool false) := (blk_cell BK150.out 1).trans rfl
        have hcz30_2 : wc.cell? ⟨gb150, 2, none⟩ = some (.int .i64 0) := (blk_cell BK150.out 2).trans rfl
        have hcz30_3 : wc.cell? ⟨gb150, 3, none⟩ = some (.string (⟨#[]⟩ : ByteArray)) := (blk_cell BK150.out 3).trans rfl
        have hfz30_0 := blk_frozen BK150.out 0
        have hfz30_1 := blk_frozen BK150.out 1
        have hfz30_2 := blk_frozen BK150.out 2
        have hfz30_3 := blk_frozen BK150.out 3
        go_wp2
        refine bodyPost_ret (results_ct rfl _ _ gb150 25 #[.int .u8 0, .bool false, .int .i64 0, .string (⟨#[]⟩ : ByteArray)] (0, 0) _ rfl (by (with_reducible repeat (first | refine blk_drewN ?_ _ | refine blk_drew ?_ | refine blk_alloc ?_ _)); refine blk_put (cs := #[.int .u8 0, .bool false, .int .i64 0, .string (⟨#[]⟩ : ByteArray)]) ?_ 3 _ rfl; (with_reducible repeat (first | refine blk_drewN ?_ _ | refine blk_drew ?_ | refine blk_alloc ?_ _)); refine blk_put (cs := #[.int .u8 0, .bool false, .int .i64 0, .string (⟨#[]⟩ : ByteArray)]) ?_ 2 _ rfl; (with_reducible repeat (first | refine blk_drewN ?_ _ | refine blk_drew ?_ | refine blk_alloc ?_ _)); refine blk_put (cs := #[.int .u8 0, .bool false, .int .i64 0, .string (⟨#[]⟩ : ByteArray)]) ?_ 1 _ rfl; (with_reducible repeat (first | refine blk_drewN ?_ _ | refine blk_drew ?_ | refine blk_alloc ?_ _)); refine blk_put (cs := #[.int .u8 0, .bool false, .int .i64 0, .string (⟨#[]⟩ : ByteArray)]) ?_ 0 _ rfl; (with_reducible repeat (first | refine blk_drewN ?_ _ | refine blk_drew ?_ | refine blk_alloc ?_ _)); exact BK150.out) Tryd.underlying25 rfl (by kernel_rfl)) rfl ?_
        exact ⟨by first | rfl | (simp [errW_none, errW_some] <;> rfl) | (simp [*, errW_none, errW_some] <;> rfl), by repeat (first | (with_reducible first | exact HB.out | apply below_alloc | apply pw_below_drewN | apply below_drew1 | refine below_set ?_ GE148.out | refine below_set ?_ GE149.out | refine below_set ?_ GE150.out) | exact HB.out)⟩
      · replace c27 := Bool.eq_false_iff.mpr c27
        subst c27
        have H1 : (if a1_0 = a2_0 then (if a1_0 = 2 then ((consts_numbers.f kj3 a0 a1_2 a2_2).bind fun bt154 => (some (bt154.1, bt154.2.1, bt154.2.2.1, bt154.2.2.2.1, bt154.2.2.2.2))) else (if a1_0 = 3 then ((consts_texts.f kj3 a0 a1_3 a2_3).bind fun bt159 => (some (bt159.1, bt159.2.1, bt159.2.2.1, bt159.2.2.2.1, bt159.2.2.2.2))) else ((consts_bools.f a0 a1_1 a2_1).bind fun bt164 => (some (bt164.1, bt164.2.1, bt164.2.2.1, bt164.2.2.2.1, bt164.2.2.2.2))))) else (some (0, false, 0, (⟨#[]⟩ : ByteArray), 81))) = some (r1, r2, r3, r4, r5) := by rw [if_neg (show ¬ (false = true) by decide)] at H; exact H
        clear H
        have H := H1
        clear H1
        by_cases c31 : a1_0 = a2_0
        · rw [if_pos c31] at H
          have c31b0 : (a1_0 == a2_0) = true := beq_iff_eq.mpr c31
          have c31b1 : (a1_0 != a2_0) = false := bne_eq_false_iff_eq.mpr c31
          clear c31
          by_cases c32 : a1_0 = 2
          · rw [if_pos c32] at H
            have c32b0 : (a1_0 == 2) = true := beq_iff_eq.mpr c32
            have c32b1 : (a1_0 != 2) = false := bne_eq_false_iff_eq.mpr c32
            clear c32
            replace H := Option.bind_eq_some_iff.mp H
            obtain ⟨⟨t154, t155, t156, t157, t158⟩, A330, H⟩ := H
            replace H : (some (t154, t155, t156, t157, t158)) = some (r1, r2, r3, r4, r5) := H
            have A33 := Aside0.mk A330
            clear A330
            simp only [Option.some.injEq, Prod.mk.injEq] at H
            obtain ⟨rfl, rfl, rfl, rfl, rfl⟩ := H
            have hnb34 := NB148_149.out
            have hnc34 := NB149_148.out
            have hnb35 := NB148_150.out
            have hnc35 := NB150_148.out
            have hcz36_0 : wc.cell? ⟨gb148, 0, none⟩ = some (.int .u8 a1_0) := (blk_cell BK148.out 0).trans rfl
            have hcz36_1 : wc.cell? ⟨gb148, 1, none⟩ = some (.bool a1_1) := (blk_cell BK148.out 1).trans rfl
            have hcz36_2 : wc.cell? ⟨gb148, 2, none⟩ = some (.int .i64 a1_2) := (blk_cell BK148.out 2).trans rfl
            have hcz36_3 : wc.cell? ⟨gb148, 3, none⟩ = some (.string a1_3) := (blk_cell BK148.out 3).trans rfl
            have hfz36_0 := blk_frozen BK148.out 0
            have hfz36_1 := blk_frozen BK148.out 1
            have hfz36_2 := blk_frozen BK148.out 2
            have hfz36_3 := blk_frozen BK148.out 3
            have hnb37 := NB149_150.out
            have hnc37 := NB150_149.out
            have hcz38_0 : wc.cell? ⟨gb149, 0, none⟩ = some (.int .u8 a2_0) := (blk_cell BK149.out 0).trans rfl
            have hcz38_1 : wc.cell? ⟨gb149, 1, none⟩ = some (.bool a2_1) := (blk_cell BK149.out 1).trans rfl
            have hcz38_2 : wc.cell? ⟨gb149, 2, none⟩ = some (.int .i64 a2_2) := (blk_cell BK149.out 2).trans rfl
            have hcz38_3 : wc.cell? ⟨gb149, 3, none⟩ = some (.string a2_3) := (blk_cell BK149.out 3).trans rfl
            have hfz38_0 := blk_frozen BK149.out 0
            have hfz38_1 := blk_frozen BK149.out 1
            have hfz38_2 := blk_frozen BK149.out 2
            have hfz38_3 := blk_frozen BK149.out 3
            go_wp2_with (first | ((with_reducible refine gate_callee (f := 18) rfl ?_); refine goesL_ (some 37) rfl rfl Tryd.func18 (by kernel_rfl) rfl #[.int .u8 a0, .int .i64 a1_2, .int .i64 a2_2] rfl (by (try simp only [List.map_toArray, List.map_cons, List.map_nil]); first | done | rfl | (simp only [List.length_drop, List.length_take]; rfl)) ?_; (with_reducible refine (consts_numbers.calls kj3 a0 a1_2 a2_2 t154 t155 t156 t157 t158 _ A33.out (SG.grow HS.out (by repeat (first | (with_reducible first | exact HB.out | apply below_alloc | apply pw_below_drewN | apply below_drew1 | refine below_set ?_ GE148.out | refine below_set ?_ GE149.out | refine below_set ?_ GE150.out) | exact HB.out)))).mono ?_); rintro e w39 ⟨rfl, hb⟩; refine ⟨_, rfl, ?_⟩; have n0_ := Aside0.mk (blk_below (g := gb148) (o := .cells #[.int .u8 a1_0, .bool a1_1, .int .i64 a1_2, .string a1_3] 25 (0, 0)) (by (with_reducible repeat (first | refine blk_drewN ?_ _ | refine blk_drew ?_ | refine blk_alloc ?_ _)); exact BK148.out) hb); have n1_ := Aside0.mk (blk_below (g := gb149) (o := .cells #[.int .u8 a2_0, .bool a2_1, .int .i64 a2_2, .string a2_3] 25 (0, 0)) (by (with_reducible repeat (first | refine blk_drewN ?_ _ | refine blk_drew ?_ | refine blk_alloc ?_ _)); exact BK149.out) hb); have n2_ := Aside0.mk (blk_below (g := gb150) (o := .cells #[.int .u8 0, .bool false, .int .i64 0, .string (⟨#[]⟩ : ByteArray)] 25 (0, 0)) (by (with_reducible repeat (first | refine blk_drewN ?_ _ | refine blk_drew ?_ | refine blk_alloc ?_ _)); exact BK150.out) hb); have n3_ := Aside0.mk (below_step (by repeat (first | (with_reducible first | exact HB.out | apply below_alloc | apply pw_below_drewN | apply below_drew1 | refine below_set ?_ GE148.out | refine below_set ?_ GE149.out | refine below_set ?_ GE150.out) | exact HB.out)) hb); clear BK148; clear BK149; clear BK150; clear HB; have BK148 := n0_; have BK149 := n1_; have BK150 := n2_; have HB := n3_; clear n0_ n1_ n2_ n3_; (try clear hb); (try clear hb2); (try clear hk); (try clear hi); have hcz40_0 : w39.cell? ⟨gb150, 0, none⟩ = some (.int .u8 0) := (blk_cell BK150.out 0).trans rfl; have hcz40_1 : w39.cell? ⟨gb150, 1, none⟩ = some (.bool false) := (blk_cell BK150.out 1).trans rfl; have hcz40_2 : w39.cell? ⟨gb150, 2, none⟩ = some (.int .i64 0) := (blk_cell BK150.out 2).trans rfl; have hcz40_3 : w39.cell? ⟨gb150, 3, none⟩ = some (.string (⟨#[]⟩ : ByteArray)) := (blk_cell BK150.out 3).trans rfl; have hfz40_0 := blk_frozen BK150.out 0; have hfz40_1 := blk_frozen BK150.out 1; have hfz40_2 := blk_frozen BK150.out 2; have hfz40_3 := blk_frozen BK150.out 3))
            refine bodyPost_ret (results_ct rfl _ _ gb150 25 #[.int .u8 t154, .bool t155, .int .i64 t156, .string t157] (0, 0) _ rfl (by (with_reducible repeat (first | refine blk_drewN ?_ _ | refine blk_drew ?_ | refine blk_alloc ?_ _)); refine blk_put (cs := #[.int .u8 t154, .bool t155, .int .i64 t156, .string (⟨#[]⟩ : ByteArray)]) ?_ 3 _ rfl; (with_reducible repeat (first | refine blk_drewN ?_ _ | refine blk_drew ?_ | refine blk_alloc ?_ _)); refine blk_put (cs := #[.int .u8 t154, .bool t155, .int .i64 0, .string (⟨#[]⟩ : ByteArray)]) ?_ 2 _ rfl; (with_reducible repeat (first | refine blk_drewN ?_ _ | refine blk_drew ?_ | refine blk_alloc ?_ _)); refine blk_put (cs := #[.int .u8 t154, .bool false, .int .i64 0, .string (⟨#[]⟩ : ByteArray)]) ?_ 1 _ rfl; (with_reducible repeat (first | refine blk_drewN ?_ _ | refine blk_drew ?_ | refine blk_alloc ?_ _)); refine blk_put (cs := #[.int .u8 0, .bool false, .int .i64 0, .string (⟨#[]⟩ : ByteArray)]) ?_ 0 _ rfl; (with_reducible repeat (first | refine blk_drewN ?_ _ | refine blk_drew ?_ | refine blk_alloc ?_ _)); exact BK150.out) Tryd.underlying25 rfl (by kernel_rfl)) rfl ?_
            exact ⟨by first | rfl | (simp [errW_none, errW_some] <;> rfl) | (simp [*, errW_none, errW_some] <;> rfl), by repeat (first | (with_reducible first | exact HB.out | apply below_alloc | apply pw_below_drewN | apply below_drew1 | refine below_set ?_ GE148.out | refine below_set ?_ GE149.out | refine below_set ?_ GE150.out) | exact HB.out)⟩
          · rw [if_neg c32] at H
            have c32b0 : (a1_0 == 2) = false := beq_eq_false_iff_ne.mpr c32
            have c32b1 : (a1_0 != 2) = true := bne_iff_ne.mpr c32
            by_cases c41 : a1_0 = 3
            · rw [if_pos c41] at H
              have c41b0 : (a1_0 == 3) = true := beq_iff_eq.mpr c41
              have c41b1 : (a1_0 != 3) = false := bne_eq_false_iff_eq.mpr c41
              clear c41
              replace H := Option.bind_eq_some_iff.mp H
              obtain ⟨⟨t159, t160, t161, t162, t163⟩, A420, H⟩ := H
              replace H : (some (t159, t160, t161, t162, t163)) = some (r1, r2, r3, r4, r5) := H
              have A42 := Aside0.mk A420
              clear A420
              simp only [Option.some.injEq, Prod.mk.injEq] at H
              obtain ⟨rfl, rfl, rfl, rfl, rfl⟩ := H
              have hnb43 := NB148_149.out
              have hnc43 := NB149_148.out
              have hnb44 := NB148_150.out
              have hnc44 := NB150_148.out
              have hcz45_0 : wc.cell? ⟨gb148, 0, none⟩ = some (.int .u8 a1_0) := (blk_cell BK148.out 0).trans rfl
              have hcz45_1 : wc.cell? ⟨gb148, 1, none⟩ = some (.bool a1_1) := (blk_cell BK148.out 1).trans rfl
              have hcz45_2 : wc.cell? ⟨gb148, 2, none⟩ = some (.int .i64 a1_2) := (blk_cell BK148.out 2).trans rfl
              have hcz45_3 : wc.cell? ⟨gb148, 3, none⟩ = some (.string a1_3) := (blk_cell BK148.out 3).trans rfl
              have hfz45_0 := blk_frozen BK148.out 0
              have hfz45_1 := blk_frozen BK148.out 1
              have hfz45_2 := blk_frozen BK148.out 2
              have hfz45_3 := blk_frozen BK148.out 3
              have hnb46 := NB149_150.out
              have hnc46 := NB150_149.out
              have hcz47_0 : wc.cell? ⟨gb149, 0, none⟩ = some (.int .u8 a2_0) := (blk_cell BK149.out 0).trans rfl
              have hcz47_1 : wc.cell? ⟨gb149, 1, none⟩ = some (.bool a2_1) := (blk_cell BK149.out 1).trans rfl
              have hcz47_2 : wc.cell? ⟨gb149, 2, none⟩ = some (.int .i64 a2_2) := (blk_cell BK149.out 2).trans rfl
              have hcz47_3 : wc.cell? ⟨gb149, 3, none⟩ = some (.string a2_3) := (blk_cell BK149.out 3).trans rfl
              have hfz47_0 := blk_frozen BK149.out 0
              have hfz47_1 := blk_frozen BK149.out 1
              have hfz47_2 := blk_frozen BK149.out 2
              have hfz47_3 := blk_frozen BK149.out 3
              go_wp2_with (first | ((with_reducible refine gate_callee (f := 19) rfl ?_); refine goesL_ (some 47) rfl rfl Tryd.func19 (by kernel_rfl) rfl #[.int .u8 a0, .string a1_3, .string a2_3] rfl (by (try simp only [List.map_toArray, List.map_cons, List.map_nil]); first | done | rfl | (simp only [List.length_drop, List.length_take]; rfl)) ?_; (with_reducible refine (consts_texts.calls kj3 a0 a1_3 a2_3 t159 t160 t161 t162 t163 _ A42.out (SG.grow HS.out (by repeat (first | (with_reducible first | exact HB.out | apply below_alloc | apply pw_below_drewN | apply below_drew1 | refine below_set ?_ GE148.out | refine below_set ?_ GE149.out | refine below_set ?_ GE150.out) | exact HB.out)))).mono ?_); rintro e w48 ⟨rfl, hb⟩; refine ⟨_, rfl, ?_⟩; have n0_ := Aside0.mk (blk_below (g := gb148) (o := .cells #[.int .u8 a1_0, .bool a1_1, .int .i64 a1_2, .string a1_3] 25 (0, 0)) (by (with_reducible repeat (first | refine blk_drewN ?_ _ | refine blk_drew ?_ | refine blk_alloc ?_ _)); exact BK148.out) hb); have n1_ := Aside0.mk (blk_below (g := gb149) (o := .cells #[.int .u8 a2_0, .bool a2_1, .int .i64 a2_2, .string a2_3] 25 (0, 0)) (by (with_reducible repeat (first | refine blk_drewN ?_ _ | refine blk_drew ?_ | refine blk_alloc ?_ _)); exact BK149.out) hb); have n2_ := Aside0.mk (blk_below (g := gb150) (o := .cells #[.int .u8 0, .bool false, .int .i64 0, .string (⟨#[]⟩ : ByteArray)] 25 (0, 0)) (by (with_reducible repeat (first | refine blk_drewN ?_ _ | refine blk_drew ?_ | refine blk_alloc ?_ _)); exact BK150.out) hb); have n3_ := Aside0.mk (below_step (by repeat (first | (with_reducible first | exact HB.out | apply below_alloc | apply pw_below_drewN | apply below_drew1 | refine below_set ?_ GE148.out | refine below_set ?_ GE149.out | refine below_set ?_ GE150.out) | exact HB.out)) hb); clear BK148; clear BK149; clear BK150; clear HB; have BK148 := n0_; have BK149 := n1_; have BK150 := n2_; have HB := n3_; clear n0_ n1_ n2_ n3_; (try clear hb); (try clear hb2); (try clear hk); (try clear hi); have hcz49_0 : w48.cell? ⟨gb150, 0, none⟩ = some (.int .u8 0) := (blk_cell BK150.out 0).trans rfl; have hcz49_1 : w48.cell? ⟨gb150, 1, none⟩ = some (.bool false) := (blk_cell BK150.out 1).trans rfl; have hcz49_2 : w48.cell? ⟨gb150, 2, none⟩ = some (.int .i64 0) := (blk_cell BK150.out 2).trans rfl; have hcz49_3 : w48.cell? ⟨gb150, 3, none⟩ = some (.string (⟨#[]⟩ : ByteArray)) := (blk_cell BK150.out 3).trans rfl; have hfz49_0 := blk_frozen BK150.out 0; have hfz49_1 := blk_frozen BK150.out 1; have hfz49_2 := blk_frozen BK150.out 2; have hfz49_3 := blk_frozen BK150.out 3))
              refine bodyPost_ret (results_ct rfl _ _ gb150 25 #[.int .u8 t159, .bool t160, .int .i64 t161, .string t162] (0, 0) _ rfl (by (with_reducible repeat (first | refine blk_drewN ?_ _ | refine blk_drew ?_ | refine blk_alloc ?_ _)); refine blk_put (cs := #[.int .u8 t159, .bool t160, .int .i64 t161, .string (⟨#[]⟩ : ByteArray)]) ?_ 3 _ rfl; (with_reducible repeat (first | refine blk_drewN ?_ _ | refine blk_drew ?_ | refine blk_alloc ?_ _)); refine blk_put (cs := #[.int .u8 t159, .bool t160, .int .i64 0, .string (⟨#[]⟩ : ByteArray)]) ?_ 2 _ rfl; (with_reducible repeat (first | refine blk_drewN ?_ _ | refine blk_drew ?_ | refine blk_alloc ?_ _)); refine blk_put (cs := #[.int .u8 t159, .bool false, .int .i64 0, .string (⟨#[]⟩ : ByteArray)]) ?_ 1 _ rfl; (with_reducible repeat (first | refine blk_drewN ?_ _ | refine blk_drew ?_ | refine blk_alloc ?_ _)); refine blk_put (cs := #[.int .u8 0, .bool false, .int .i64 0, .string (⟨#[]⟩ : ByteArray)]) ?_ 0 _ rfl; (with_reducible repeat (first | refine blk_drewN ?_ _ | refine blk_drew ?_ | refine blk_alloc ?_ _)); exact BK150.out) Tryd.underlying25 rfl (by kernel_rfl)) rfl ?_
              exact ⟨by first | rfl | (simp [errW_none, errW_some] <;> rfl) | (simp [*, errW_none, errW_some] <;> rfl), by repeat (first | (with_reducible first | exact HB.out | apply below_alloc | apply pw_below_drewN | apply below_drew1 | refine below_set ?_ GE148.out | refine below_set ?_ GE149.out | refine below_set ?_ GE150.out) | exact HB.out)⟩
            · rw [if_neg c41] at H
              have c41b0 : (a1_0 == 3) = false := beq_eq_false_iff_ne.mpr c41
              have c41b1 : (a1_0 != 3) = true := bne_iff_ne.mpr c41
              replace H := Option.bind_eq_some_iff.mp H
              obtain ⟨⟨t164, t165, t166, t167, t168⟩, A500, H⟩ := H
              replace H : (some (t164, t165, t166, t167, t168)) = some (r1, r2, r3, r4, r5) := H
              have A50 := Aside0.mk A500
              clear A500
              simp only [Option.some.injEq, Prod.mk.injEq] at H
              obtain ⟨rfl, rfl, rfl, rfl, rfl⟩ := H
              have hnb51 := NB148_149.out
              have hnc51 := NB149_148.out
              have hnb52 := NB148_150.out
              have hnc52 := NB150_148.out
              have hcz53_0 : wc.cell? ⟨gb148, 0, none⟩ = some (.int .u8 a1_0) := (blk_cell BK148.out 0).trans rfl
              have hcz53_1 : wc.cell? ⟨gb148, 1, none⟩ = some (.bool a1_1) := (blk_cell BK148.out 1).trans rfl
              have hcz53_2 : wc.cell? ⟨gb148, 2, none⟩ = some (.int .i64 a1_2) := (blk_cell BK148.out 2).trans rfl
              have hcz53_3 : wc.cell? ⟨gb148, 3, none⟩ = some (.string a1_3) := (blk_cell BK148.out 3).trans rfl
              have hfz53_0 := blk_frozen BK148.out 0
              have hfz53_1 := blk_frozen BK148.out 1
              have hfz53_2 := blk_frozen BK148.out 2
              have hfz53_3 := blk_frozen BK148.out 3
              have hnb54 := NB149_150.out
              have hnc54 := NB150_149.out
              have hcz55_0 : wc.cell? ⟨gb149, 0, none⟩ = some (.int .u8 a2_0) := (blk_cell BK149.out 0).trans rfl
              have hcz55_1 : wc.cell? ⟨gb149, 1, none⟩ = some (.bool a2_1) := (blk_cell BK149.out 1).trans rfl
              have hcz55_2 : wc.cell? ⟨gb149, 2, none⟩ = some (.int .i64 a2_2) := (blk_cell BK149.out 2).trans rfl
              have hcz55_3 : wc.cell? ⟨gb149, 3, none⟩ = some (.string a2_3) := (blk_cell BK149.out 3).trans rfl
              have hfz55_0 := blk_frozen BK149.out 0
              have hfz55_1 := blk_frozen BK149.out 1
              have hfz55_2 := blk_frozen BK149.out 2
              have hfz55_3 := blk_frozen BK149.out 3
              go_wp2_with (first | ((with_reducible refine gate_callee (f := 20) rfl ?_); refine goesL_ (some 55) rfl rfl Tryd.func20 (by kernel_rfl) rfl #[.int .u8 a0, .bool a1_1, .bool a2_1] rfl (by (try simp only [List.map_toArray, List.map_cons, List.map_nil]); first | done | rfl | (simp only [List.length_drop, List.length_take]; rfl)) ?_; (with_reducible refine (consts_bools.calls a0 a1_1 a2_1 t164 t165 t166 t167 t168 _ A50.out).mono ?_); rintro e w56 ⟨rfl, hb⟩; refine ⟨_, rfl, ?_⟩; have n0_ := Aside0.mk (blk_below (g := gb148) (o := .cells #[.int .u8 a1_0, .bool a1_1, .int .i64 a1_2, .string a1_3] 25 (0, 0)) (by (with_reducible repeat (first | refine blk_drewN ?_ _ | refine blk_drew ?_ | refine blk_alloc ?_ _)); exact BK148.out) hb); have n1_ := Aside0.mk (blk_below (g := gb149) (o := .cells #[.int .u8 a2_0, .bool a2_1, .int .i64 a2_2, .string a2_3] 25 (0, 0)) (by (with_reducible repeat (first | refine blk_drewN ?_ _ | refine blk_drew ?_ | refine blk_alloc ?_ _)); exact BK149.out) hb); have n2_ := Aside0.mk (blk_below (g := gb150) (o := .cells #[.int .u8 0, .bool false, .int .i64 0, .string (⟨#[]⟩ : ByteArray)] 25 (0, 0)) (by (with_reducible repeat (first | refine blk_drewN ?_ _ | refine blk_drew ?_ | refine blk_alloc ?_ _)); exact BK150.out) hb); have n3_ := Aside0.mk (below_step (by repeat (first | (with_reducible first | exact HB.out | apply below_alloc | apply pw_below_drewN | apply below_drew1 | refine below_set ?_ GE148.out | refine below_set ?_ GE149.out | refine below_set ?_ GE150.out) | exact HB.out)) hb); clear BK148; clear BK149; clear BK150; clear HB; have BK148 := n0_; have BK149 := n1_; have BK150 := n2_; have HB := n3_; clear n0_ n1_ n2_ n3_; (try clear hb); (try clear hb2); (try clear hk); (try clear hi); have hcz57_0 : w56.cell? ⟨gb150, 0, none⟩ = some (.int .u8 0) := (blk_cell BK150.out 0).trans rfl; have hcz57_1 : w56.cell? ⟨gb150, 1, none⟩ = some (.bool false) := (blk_cell BK150.out 1).trans rfl; have hcz57_2 : w56.cell? ⟨gb150, 2, none⟩ = some (.int .i64 0) := (blk_cell BK150.out 2).trans rfl; have hcz57_3 : w56.cell? ⟨gb150, 3, none⟩ = some (.string (⟨#[]⟩ : ByteArray)) := (blk_cell BK150.out 3).trans rfl; have hfz57_0 := blk_frozen BK150.out 0; have hfz57_1 := blk_frozen BK150.out 1; have hfz57_2 := blk_frozen BK150.out 2; have hfz57_3 := blk_frozen BK150.out 3))
              refine bodyPost_ret (results_ct rfl _ _ gb150 25 #[.int .u8 t164, .bool t165, .int .i64 t166, .string t167] (0, 0) _ rfl (by (with_reducible repeat (first | refine blk_drewN ?_ _ | refine blk_drew ?_ | refine blk_alloc ?_ _)); refine blk_put (cs := #[.int .u8 t164, .bool t165, .int .i64 t166, .string (⟨#[]⟩ : ByteArray)]) ?_ 3 _ rfl; (with_reducible repeat (first | refine blk_drewN ?_ _ | refine blk_drew ?_ | refine blk_alloc ?_ _)); refine blk_put (cs := #[.int .u8 t164, .bool t165, .int .i64 0, .string (⟨#[]⟩ : ByteArray)]) ?_ 2 _ rfl; (with_reducible repeat (first | refine blk_drewN ?_ _ | refine blk_drew ?_ | refine blk_alloc ?_ _)); refine blk_put (cs := #[.int .u8 t164, .bool false, .int .i64 0, .string (⟨#[]⟩ : ByteArray)]) ?_ 1 _ rfl; (with_reducible repeat (first | refine blk_drewN ?_ _ | refine blk_drew ?_ | refine blk_alloc ?_ _)); refine blk_put (cs := #[.int .u8 0, .bool false, .int .i64 0, .string (⟨#[]⟩ : ByteArray)]) ?_ 0 _ rfl; (with_reducible repeat (first | refine blk_drewN ?_ _ | refine blk_drew ?_ | refine blk_alloc ?_ _)); exact BK150.out) Tryd.underlying25 rfl (by kernel_rfl)) rfl ?_
              exact ⟨by first | rfl | (simp [errW_none, errW_some] <;> rfl) | (simp [*, errW_none, errW_some] <;> rfl), by repeat (first | (with_reducible first | exact HB.out | apply below_alloc | apply pw_below_drewN | apply below_drew1 | refine below_set ?_ GE148.out | refine below_set ?_ GE149.out | refine below_set ?_ GE150.out) | exact HB.out)⟩
        · rw [if_neg c31] at H
          have c31b0 : (a1_0 == a2_0) = false := beq_eq_false_iff_ne.mpr c31
          have c31b1 : (a1_0 != a2_0) = true := bne_iff_ne.mpr c31
          simp only [Option.some.injEq, Prod.mk.injEq] at H
          obtain ⟨rfl, rfl, rfl, rfl, rfl⟩ := H
          have hnb58 := NB148_149.out
          have hnc58 := NB149_148.out
          have hnb59 := NB148_150.out
          have hnc59 := NB150_148.out
          have hcz60_0 : wc.cell? ⟨gb148, 0, none⟩ = some (.int .u8 a1_0) := (blk_cell BK148.out 0).trans rfl
          have hcz60_1 : wc.cell? ⟨gb148, 1, none⟩ = some (.bool a1_1) := (blk_cell BK148.out 1).trans rfl
          have hcz60_2 : wc.cell? ⟨gb148, 2, none⟩ = some (.int .i64 a1_2) := (blk_cell BK148.out 2).trans rfl
          have hcz60_3 : wc.cell? ⟨gb148, 3, none⟩ = some (.string a1_3) := (blk_cell BK148.out 3).trans rfl
          have hfz60_0 := blk_frozen BK148.out 0
          have hfz60_1 := blk_frozen BK148.out 1
          have hfz60_2 := blk_frozen BK148.out 2
          have hfz60_3 := blk_frozen BK148.out 3
          have hnb61 := NB149_150.out
          have hnc61 := NB150_149.out
          have hcz62_0 : wc.cell? ⟨gb149, 0, none⟩ = some (.int .u8 a2_0) := (blk_cell BK149.out 0).trans rfl
          have hcz62_1 : wc.cell? ⟨gb149, 1, none⟩ = some (.bool a2_1) := (blk_cell BK149.out 1).trans rfl
          have hcz62_2 : wc.cell? ⟨gb149, 2, none⟩ = some (.int .i64 a2_2) := (blk_cell BK149.out 2).trans rfl
          have hcz62_3 : wc.cell? ⟨gb149, 3, none⟩ = some (.string a2_3) := (blk_cell BK149.out 3).trans rfl
          have hfz62_0 := blk_frozen BK149.out 0
          have hfz62_1 := blk_frozen BK149.out 1
          have hfz62_2 := blk_frozen BK149.out 2
          have hfz62_3 := blk_frozen BK149.out 3
          have hcz63_0 : wc.cell? ⟨gb150, 0, none⟩ = some (.int .u8 0) := (blk_cell BK150.out 0).trans rfl
          have hcz63_1 : wc.cell? ⟨gb150, 1, none⟩ = some (.bool false) := (blk_cell BK150.out 1).trans rfl
          have hcz63_2 : wc.cell? ⟨gb150, 2, none⟩ = some (.int .i64 0) := (blk_cell BK150.out 2).trans rfl
          have hcz63_3 : wc.cell? ⟨gb150, 3, none⟩ = some (.string (⟨#[]⟩ : ByteArray)) := (blk_cell BK150.out 3).trans rfl
          have hfz63_0 := blk_frozen BK150.out 0
          have hfz63_1 := blk_frozen BK150.out 1
          have hfz63_2 := blk_frozen BK150.out 2
          have hfz63_3 := blk_frozen BK150.out 3
          go_wp2
          refine bodyPost_ret (results_ct rfl _ _ gb150 25 #[.int .u8 0, .bool false, .int .i64 0, .string (⟨#[]⟩ : ByteArray)] (0, 0) _ rfl (by (with_reducible repeat (first | refine blk_drewN ?_ _ | refine blk_drew ?_ | refine blk_alloc ?_ _)); refine blk_put (cs := #[.int .u8 0, .bool false, .int .i64 0, .string (⟨#[]⟩ : ByteArray)]) ?_ 3 _ rfl; (with_reducible repeat (first | refine blk_drewN ?_ _ | refine blk_drew ?_ | refine blk_alloc ?_ _)); refine blk_put (cs := #[.int .u8 0, .bool false, .int .i64 0, .string (⟨#[]⟩ : ByteArray)]) ?_ 2 _ rfl; (with_reducible repeat (first | refine blk_drewN ?_ _ | refine blk_drew ?_ | refine blk_alloc ?_ _)); refine blk_put (cs := #[.int .u8 0, .bool false, .int .i64 0, .string (⟨#[]⟩ : ByteArray)]) ?_ 1 _ rfl; (with_reducible repeat (first | refine blk_drewN ?_ _ | refine blk_drew ?_ | refine blk_alloc ?_ _)); refine blk_put (cs := #[.int .u8 0, .bool false, .int .i64 0, .string (⟨#[]⟩ : ByteArray)]) ?_ 0 _ rfl; (with_reducible repeat (first | refine blk_drewN ?_ _ | refine blk_drew ?_ | refine blk_alloc ?_ _)); exact BK150.out) Tryd.underlying25 rfl (by kernel_rfl)) rfl ?_
          exact ⟨by first | rfl | (simp [errW_none, errW_some] <;> rfl) | (simp [*, errW_none, errW_some] <;> rfl), by repeat (first | (with_reducible first | exact HB.out | apply below_alloc | apply pw_below_drewN | apply below_drew1 | refine below_set ?_ GE148.out | refine below_set ?_ GE149.out | refine below_set ?_ GE150.out) | exact HB.out)⟩

end Go.Proofs.YteklmgmhkmdddaaDoor.S

-- Binary, plainly: what the printed functions compute, for all operators
namespace Go.Proofs.YteklmgmhkmdddaaDoor.Q
open Go.RowKit Go.Proofs.YteklmgmhkmdddaaDoor.S Go.Proofs.YteklmgmhkmdddaaDoorW.PrintWords Go.Proofs.YteklmgmhkmdddaaDoorW.PrintLast Go.Proofs.YteklmgmhkmdddaaDoorW.PrintMore
set_option linter.unusedSimpArgs false
set_option linter.unusedVariables false

abbrev V5 := Int × Bool × Int × ByteArray × Int
def okN (n : Int) : V5 := (2, false, n, ⟨#[]⟩, 0)
def okB (b : Bool) : V5 := (1, b, 0, ⟨#[]⟩, 0)
def okT (t : ByteArray) : V5 := (3, false, 0, t, 0)
def erV (e : Int) : V5 := (0, false, 0, ⟨#[]⟩, e)
/-- A whole number of 64 bits. -/
def In64 (n : Int) : Prop := -9223372036854775808 ≤ n ∧ n ≤ 9223372036854775807
instance (n : Int) : Decidable (In64 n) := by unfold In64; infer_instance
theorem w64 {x : Int} (h : In64 x) : wrap64 x = x := by unfold wrap64; unfold In64 at h; omega
/-- The number, where it has room. -/
def fit (n : Int) : V5 := if In64 n then okN n else erV 80
def wi (n : Int) (b : Bool) : V5 := if b = true then okN n else erV 80
theorem within_is (n : Int) (b : Bool) : F.consts_within.f n b = some (wi n b) := by cases b <;> rfl
theorem add_fit (a b : Int) (ha : In64 a) (hb : In64 b) : wi (wrap64 (a + b)) (decide (wrap64 (a + b) > a) == decide (b > 0)) = fit (a + b) := by
  unfold In64 at ha hb
  unfold wi fit
  by_cases h : In64 (a + b)
  · rw [if_pos h, w64 h]
    have : (decide (a + b > a) == decide (b > 0)) = true := by
      rw [beq_iff_eq]
      by_cases c : b > 0
      · rw [decide_eq_true c, decide_eq_true (by omega)]
      · rw [decide_eq_false c, decide_eq_false (by omega)]
    rw [if_pos this]
  · rw [if_neg h]
    unfold In64 at h
    have : ¬ (decide (wrap64 (a + b) > a) == decide (b > 0)) = true := by
      rw [beq_iff_eq]
      by_cases c : b > 0
      · rw [decide_eq_true c, decide_eq_false (by unfold wrap64; omega)]; simp
      · rw [decide_eq_false c, decide_eq_true (by unfold wrap64; omega)]; simp
    rw [if_neg this]
theorem sub_fit (a b : Int) (ha : In64 a) (hb : In64 b) : wi (wrap64 (a - b)) (decide (wrap64 (a - b) < a) == decide (b > 0)) = fit (a - b) := by
  unfold In64 at ha hb
  unfold wi fit
  by_cases h : In64 (a - b)
  · rw [if_pos h, w64 h]
    have : (decide (a - b < a) == decide (b > 0)) = true := by
      rw [beq_iff_eq]
      by_cases c : b > 0
      · rw [decide_eq_true c, decide_eq_true (by omega)]
      · rw [decide_eq_false c, decide_eq_false (by omega)]
    rw [if_pos this]
  · rw [if_neg h]
    unfold In64 at h
    have : ¬ (decide (wrap64 (a - b) < a) == decide (b > 0)) = true := by
      rw [beq_iff_eq]
      by_cases c : b > 0
      · rw [decide_eq_true c, decide_eq_false (by unfold wrap64; omega)]; simp
      · rw [decide_eq_false c, decide_eq_true (by unfold wrap64; omega)]; simp
    rw [if_neg this]
theorem tdiv_in {a b : Int} (ha : In64 a) (hb : In64 b) (h0 : b ≠ 0) (hs : ¬ (a = -9223372036854775808 ∧ b = -1)) : In64 (Int.tdiv a b) := by
  unfold In64 at *
  have h1 : (Int.tdiv a b).natAbs ≤ a.natAbs := by rw [Int.natAbs_tdiv]; exact Nat.div_le_self _ _
  by_cases hm : a = -9223372036854775808
  · have hb1 : b ≠ -1 := fun h => hs ⟨hm, h⟩
    by_cases hb2 : b = 1
    · subst hb2; subst hm; decide
    · have h2 : (Int.tdiv a b).natAbs ≤ a.natAbs / 2 := by
        rw [Int.natAbs_tdiv]
        exact Nat.div_le_div_left (by omega) (by omega)
      omega
  · omega
theorem mul_core (a b p : Int) (ha : In64 a) (hb : In64 b) (h0 : b ≠ 0) (hp : p = wrap64 (a * b)) (hs : ¬ (a = -9223372036854775808 ∧ b = -1)) : (wrap64 (Int.tdiv p b) = a) ↔ In64 (a * b) := by
  have hpi : In64 p := by rw [hp]; unfold In64 wrap64; omega
  have hps : ¬ (p = -9223372036854775808 ∧ b = -1) := by
    rintro ⟨h1, rfl⟩
    have : a ≠ -9223372036854775808 := fun h => hs ⟨h, rfl⟩
    unfold In64 at ha
    rw [h1] at hp
    unfold wrap64 at hp
    omega
  rw [w64 (tdiv_in hpi hb h0 hps)]
  constructor
  · intro h
    have e := Int.mul_tdiv_add_tmod p b
    rw [h] at e
    have hr : (Int.tmod p b).natAbs < b.natAbs := by
      rw [Int.natAbs_tmod]
      exact Nat.mod_lt _ (by omega)
    obtain ⟨q, hq⟩ : ∃ q : Int, p = a * b + 18446744073709551616 * q := ⟨(p - a * b) / 18446744073709551616, by
      have : (p - a * b) % 18446744073709551616 = 0 := by rw [hp]; unfold wrap64; omega
      omega⟩
    have hc : b * a = a * b := Int.mul_comm _ _
    unfold In64 at hb
    have : q = 0 := by omega
    rw [this] at hq
    rw [show a * b = p by omega]
    exact hpi
  · intro h
    rw [hp, w64 h]
    exact Int.mul_tdiv_cancel a h0
def prodB (a b : Int) : Int × Bool := if a = 0 ∨ b = 0 then (0, true) else if (a = -1 ∧ b = -9223372036854775808) ∨ (b = -1 ∧ a = -9223372036854775808) then (0, false) else (wrap64 (a * b), wrap64 (Int.tdiv (wrap64 (a * b)) b) == a)
theorem prod_is (k : Nat) (a b : Int) : F.consts_product.f (k + 1) a b = some (prodB a b) := by
  unfold F.consts_product.f prodB
  by_cases h1 : a = 0
  · rw [if_pos h1, if_pos (.inl h1)]
    simp [F.consts_product.j0]
  · rw [if_neg h1]
    simp only [F.consts_product.j0]
    by_cases h2 : b = 0
    · rw [if_pos (by simp [h2]), if_pos (show a = 0 ∨ b = 0 from .inr h2)]
    · rw [if_neg (by simp [h2]), if_neg (show ¬ (a = 0 ∨ b = 0) by omega)]
      by_cases h3 : a = -1
      · rw [if_pos h3]
        by_cases h4 : b = -9223372036854775808
        · rw [if_pos h4, if_pos (show (a = -1 ∧ b = -9223372036854775808) ∨ (b = -1 ∧ a = -9223372036854775808) from .inl ⟨h3, h4⟩)]
        · rw [if_neg h4, if_neg (show ¬ ((a = -1 ∧ b = -9223372036854775808) ∨ (b = -1 ∧ a = -9223372036854775808)) by omega)]
          by_cases h5 : b = -1
          · rw [if_pos h5, if_neg (by omega), if_neg h2]
          · rw [if_neg h5, if_neg h2]
      · rw [if_neg h3]
        by_cases h5 : b = -1
        · rw [if_pos h5]
          by_cases h6 : a = -9223372036854775808
          · rw [if_pos h6, if_pos (show (a = -1 ∧ b = -9223372036854775808) ∨ (b = -1 ∧ a = -9223372036854775808) from .inr ⟨h5, h6⟩)]
          · rw [if_neg h6, if_neg h2, if_neg (show ¬ ((a = -1 ∧ b = -9223372036854775808) ∨ (b = -1 ∧ a = -9223372036854775808)) by omega)]
        · rw [if_neg h5, if_neg h2, if_neg (show ¬ ((a = -1 ∧ b = -9223372036854775808) ∨ (b = -1 ∧ a = -9223372036854775808)) by omega)]
theorem mul_fit (a b : Int) (ha : In64 a) (hb : In64 b) : wi (prodB a b).1 (prodB a b).2 = fit (a * b) := by
  unfold prodB
  by_cases h0 : a = 0 ∨ b = 0
  · rw [if_pos h0]
    have : a * b = 0 := by rcases h0 with rfl | rfl <;> simp
    rw [this]
    rfl
  · rw [if_neg h0]
    by_cases hs : (a = -1 ∧ b = -9223372036854775808) ∨ (b = -1 ∧ a = -9223372036854775808)
    · rw [if_pos hs]
      rcases hs with ⟨rfl, rfl⟩ | ⟨rfl, rfl⟩ <;> rfl
    · rw [if_neg hs]
      have hk := mul_core a b _ ha hb (by omega) rfl (by omega)
      unfold wi fit
      by_cases h : In64 (a * b)
      · rw [if_pos h, if_pos (by rw [beq_iff_eq]; exact hk.2 h), w64 h]
      · rw [if_neg h, if_neg (by rw [beq_iff_eq]; exact fun e => h (hk.1 e))]
theorem div_fit (a b : Int) (ha : In64 a) (hb : In64 b) (h0 : b ≠ 0) : wi (wrap64 (Int.tdiv a b)) (if a = -9223372036854775808 then b != -1 else true) = fit (Int.tdiv a b) := by
  unfold wi fit
  by_cases hs : a = -9223372036854775808 ∧ b = -1
  · obtain ⟨rfl, rfl⟩ := hs
    rfl
  · have hi := tdiv_in ha hb h0 hs
    rw [if_pos hi, w64 hi]
    by_cases hm : a = -9223372036854775808
    · rw [if_pos hm, if_pos (by rw [bne_iff_ne]; exact fun h => hs ⟨hm, h⟩)]
    · rw [if_neg hm, if_pos rfl]
theorem pow_pos2 (n : Nat) : (0 : Int) < 2 ^ n := Int.pow_pos (by decide)
theorem shl_fit (a b : Int) (ha : In64 a) (h0 : 0 ≤ b) (h1 : b ≤ 63) : wi (shl .i64 a b) (shr .i64 (shl .i64 a b) b == a) = fit (a * 2 ^ b.toNat) := by
  have hm : min b.toNat (IntKind.bits .i64) = b.toNat := Nat.min_eq_left (by show b.toNat ≤ 64; omega)
  unfold shl shr
  rw [hm]
  have hw : IntKind.i64.wrap (a * 2 ^ b.toNat) = wrap64 (a * 2 ^ b.toNat) := i64_w _
  rw [hw]
  unfold wi fit
  by_cases h : In64 (a * 2 ^ b.toNat)
  · rw [if_pos h, w64 h, if_pos (by rw [beq_iff_eq]; exact Int.mul_ediv_cancel a (by have := pow_pos2 b.toNat; omega))]
  · rw [if_neg h, if_neg]
    rw [beq_iff_eq]
    intro e
    apply h
    -- the shifted number, shifted back: it lacks what has been cut off
    have hpi : In64 (wrap64 (a * 2 ^ b.toNat)) := by unfold In64 wrap64; omega
    have hpos := pow_pos2 b.toNat
    have e1 := Int.mul_ediv_add_emod (wrap64 (a * 2 ^ b.toNat)) (2 ^ b.toNat)
    rw [e] at e1
    have e2 : wrap64 (a * 2 ^ b.toNat) % (2 ^ b.toNat) = 0 := by
      obtain ⟨q, hq⟩ : ∃ q : Int, wrap64 (a * 2 ^ b.toNat) = a * 2 ^ b.toNat + 18446744073709551616 * q := ⟨(wrap64 (a * 2 ^ b.toNat) - a * 2 ^ b.toNat) / 18446744073709551616, by
        have : (wrap64 (a * 2 ^ b.toNat) - a * 2 ^ b.toNat) % 18446744073709551616 = 0 := by unfold wrap64; omega
        omega⟩
      have h64 : (18446744073709551616 : Int) = 2 ^ b.toNat * 2 ^ (64 - b.toNat) := by rw [← Int.pow_add, show b.toNat + (64 - b.toNat) = 64 by omega]; rfl
      rw [hq, h64, Int.mul_assoc, Int.add_mul_emod_self_left]
      exact Int.mul_emod_left _ _
    rw [e2, Int.add_zero, Int.mul_comm] at e1
    rw [e1]
    exact hpi
/-- What an operator makes of two numbers. -/
def numV (op a b : Int) : V5 :=
  if isCmp op = true then okB (sgB op ((sgnI (decide (a < b)) (a == b) : Nat) : Int))
  else if op = 32 then fit (a + b) else if op = 33 then fit (a - b) else if op = 34 then fit (a * b)
  else if op = 35 then (if b = 0 then erV 80 else fit (Int.tdiv a b)) else if op = 36 then (if b = 0 then erV 80 else okN (Int.tmod a b))
  else if op = 40 then (if b < 0 ∨ b > 63 then erV 80 else fit (a * 2 ^ b.toNat)) else if op = 41 then (if b < 0 ∨ b > 63 then erV 80 else okN (a / 2 ^ b.toNat))
  else if op = 37 then okN (Go.bits .and .i64 a b) else if op = 38 then okN (Go.bits .or .i64 a b) else if op = 39 then okN (Go.bits .xor .i64 a b) else if op = 42 then okN (Go.bits .andNot .i64 a b)
  else erV 81
theorem cmp_off {op : Int} (h : ¬ isCmp op = true) : op ≠ 59 ∧ op ≠ 65 ∧ op ≠ 60 ∧ op ≠ 66 ∧ op ≠ 61 ∧ op ≠ 67 := by
  refine ⟨?_, ?_, ?_, ?_, ?_, ?_⟩ <;> rintro rfl <;> exact h rfl
theorem num_is (k : Nat) (op a b : Int) (ha : In64 a) (hb : In64 b) : consts_numbers.f (k + 4) op a b = some (numV op a b) := by
  unfold consts_numbers.f numV
  by_cases c : isCmp op = true
  · rw [if_pos c, if_pos c]
    rfl
  rw [if_neg c, if_neg c]
  obtain ⟨c1, c2, c3, c4, c5, c6⟩ := cmp_off c
  unfold F.consts_numbers.f
  by_cases h32 : op = 32
  · rw [if_pos h32, if_pos h32, within_is, ← add_fit a b ha hb]; rfl
  rw [if_neg h32, if_neg h32]
  by_cases h33 : op = 33
  · rw [if_pos h33, if_pos h33, within_is, ← sub_fit a b ha hb]; rfl
  rw [if_neg h33, if_neg h33]
  by_cases h34 : op = 34
  · rw [if_pos h34, if_pos h34, prod_is, ← mul_fit a b ha hb]
    simp only [Option.bind_some, within_is]
  rw [if_neg h34, if_neg h34]
  by_cases h35 : op = 35
  · subst h35
    rw [if_pos rfl, if_pos rfl]
    simp only [F.consts_numbers.j0]
    rw [if_pos (by decide)]
    by_cases hb0 : b = 0
    · rw [if_pos hb0, if_pos hb0]; rfl
    · rw [if_neg hb0, if_neg hb0, if_pos trivial, ← div_fit a b ha hb hb0]
      by_cases hm : a = -9223372036854775808
      · rw [if_pos hm, if_pos hm, within_is]; rfl
      · rw [if_neg hm, if_neg hm, within_is]; rfl
  rw [if_neg h35, if_neg h35]
  simp only [F.consts_numbers.j0]
  by_cases h36 : op = 36
  · subst h36
    rw [if_pos (by decide), if_pos rfl]
    by_cases hb0 : b = 0
    · rw [if_pos hb0, if_pos hb0]; rfl
    · rw [if_neg hb0, if_neg hb0, if_neg (by decide)]; rfl
  rw [if_neg (by simpa using h36), if_neg h36]
  by_cases h40 : op = 40
  · subst h40
    rw [if_pos rfl, if_pos rfl]
    simp only [F.consts_numbers.j1]
    rw [if_pos (by decide)]
    by_cases hb0 : b < 0
    · rw [if_pos hb0, if_pos (.inl hb0)]; rfl
    · rw [if_neg hb0]
      simp only [F.consts_numbers.j2]
      by_cases hb1 : b > 63
      · rw [if_pos (by simpa using hb1), if_pos (.inr hb1)]; rfl
      · rw [if_neg (by simpa using hb1), if_pos trivial, if_pos (by omega), if_neg (by omega), within_is, ← shl_fit a b ha (by omega) (by omega)]; rfl
  rw [if_neg h40, if_neg h40]
  simp only [F.consts_numbers.j1]
  by_cases h41 : op = 41
  · subst h41
    rw [if_pos (by decide), if_pos rfl]
    by_cases hb0 : b < 0
    · rw [if_pos hb0, if_pos (.inl hb0)]; rfl
    · rw [if_neg hb0]
      simp only [F.consts_numbers.j2]
      by_cases hb1 : b > 63
      · rw [if_pos (by simpa using hb1), if_pos (.inr hb1)]; rfl
      · have hm : min b.toNat (IntKind.bits .i64) = b.toNat := Nat.min_eq_left (by show b.toNat ≤ 64; omega)
        rw [if_neg (by simpa using hb1), if_neg (by decide), if_pos (by omega), if_neg (by omega)]
        unfold shr
        rw [hm]
        rfl
  rw [if_neg (by simpa using h41), if_neg h41]
  by_cases h37 : op = 37
  · rw [if_pos h37, if_pos h37]; rfl
  rw [if_neg h37, if_neg h37]
  by_cases h38 : op = 38
  · rw [if_pos h38, if_pos h38]; rfl
  rw [if_neg h38, if_neg h38]
  by_cases h39 : op = 39
  · rw [if_pos h39, if_pos h39]; rfl
  rw [if_neg h39, if_neg h39]
  by_cases h42 : op = 42
  · rw [if_pos h42, if_pos h42]; rfl
  rw [if_neg h42, if_neg h42, if_neg c1, if_neg c2, if_neg c3, if_neg c4, if_neg c5, if_neg c6]
  rfl
end Go.Proofs.YteklmgmhkmdddaaDoor.Q

-- Binary, plainly: values of all sorts; which operators mind the order
namespace Go.Proofs.YteklmgmhkmdddaaDoor.Q
open Go.RowKit Go.Proofs.YteklmgmhkmdddaaDoor.S Go.Proofs.YteklmgmhkmdddaaDoorW.PrintWords Go.Proofs.YteklmgmhkmdddaaDoorW.PrintLast Go.Proofs.YteklmgmhkmdddaaDoorW.PrintMore
set_option linter.unusedSimpArgs false
set_option linter.unusedVariables false

def txtV (op : Int) (s t : ByteArray) : V5 :=
  if isCmp op = true then okB (sgB op ((sgnI (Op.bytesLess s.toList t.toList) (s.toList == t.toList) : Nat) : Int)) else if op = 32 then (if s.size + t.size ≤ 65536 then okT (s ++ t) else erV 80) else erV 81
def boolV (op : Int) (a b : Bool) : V5 := if op = 59 then okB (a == b) else if op = 65 then okB (a != b) else if op = 54 then okB (a && b) else if op = 55 then okB (a || b) else erV 81
def rightB (s : Int) (b : Bool) (n : Int) (t : ByteArray) : Bool := if s = 1 then (n == 0 && t.toList == []) else if s = 2 then (!b && t.toList == []) else if s = 3 then (!b && n == 0) else false
def isBin (op : Int) : Bool := decide (32 ≤ op ∧ op ≤ 42) || (decide (op = 54) || (decide (op = 55) || isCmp op))
theorem nil_list : (⟨#[]⟩ : ByteArray).toList = [] := by rw [Lib.toList_data]
theorem right_is (s : Int) (b : Bool) (n : Int) (t : ByteArray) : consts_right.f s b n t = some (rightB s b n t) := by
  unfold consts_right.f rightB
  by_cases h1 : s = 1
  · rw [if_pos h1, if_pos h1]
    simp [consts_truth.f, h1]
  rw [if_neg h1, if_neg h1]
  by_cases h2 : s = 2
  · rw [if_pos h2, if_pos h2]
    simp [consts_number.f, h2]
  rw [if_neg h2, if_neg h2]
  by_cases h3 : s = 3
  · rw [if_pos h3, if_pos h3]
    simp [consts_words.f, h3]
  rw [if_neg h3, if_neg h3]
theorem binary_is (k : Nat) (op : Int) (h0 : 0 ≤ op) : consts_binary.f k op = some (isBin op) := by
  unfold consts_binary.f isBin
  by_cases h1 : 32 ≤ op ∧ op ≤ 42
  · rw [decide_eq_true h1]
    have : op = 32 ∨ op = 33 ∨ op = 34 ∨ op = 35 ∨ op = 36 ∨ op = 37 ∨ op = 38 ∨ op = 39 ∨ op = 40 ∨ op = 41 ∨ op = 42 := by omega
    rcases this with rfl | rfl | rfl | rfl | rfl | rfl | rfl | rfl | rfl | rfl | rfl <;> rfl
  · rw [decide_eq_false h1]
    iterate 11 rw [if_neg (by omega)]
    by_cases h2 : op = 54
    · rw [if_pos h2, decide_eq_true h2]; rfl
    rw [if_neg h2, decide_eq_false h2]
    by_cases h3 : op = 55
    · rw [if_pos h3, decide_eq_true h3]; rfl
    rw [if_neg h3, decide_eq_false h3]
    unfold consts_compares.f
    rw [if_pos h0]
    simp
theorem sum64' (a b : Nat) (h : a + b ≤ 1000000000000000000) : wrap64 ((a : Int) + (b : Int)) = ((a + b : Nat) : Int) := by unfold wrap64; omega
theorem txt_is (k : Nat) (op : Int) (s t : ByteArray) (h0 : 0 ≤ op) (hst : s.size + t.size ≤ 1000000000000000000) : consts_texts.f k op s t = some (txtV op s t) := by
  unfold consts_texts.f txtV
  by_cases c : isCmp op = true
  · rw [if_pos c, if_pos c]; rfl
  rw [if_neg c, if_neg c]
  by_cases h : op = 32
  · rw [if_pos h, if_pos h]
    unfold F.consts_texts.f
    rw [if_pos h, sum64' _ _ hst]
    by_cases c2 : s.size + t.size ≤ 65536
    · rw [if_neg (by omega), if_pos (by omega), if_pos c2]; rfl
    · rw [if_pos (by omega), if_neg c2]; rfl
  · rw [if_neg h, if_neg h, if_pos h0]; rfl
theorem bool_is (op : Int) (a b : Bool) : consts_bools.f op a b = some (boolV op a b) := by
  unfold consts_bools.f boolV
  by_cases h1 : op = 59
  · rw [if_pos h1, if_pos h1]; rfl
  rw [if_neg h1, if_neg h1]
  by_cases h2 : op = 65
  · rw [if_pos h2, if_pos h2]; rfl
  rw [if_neg h2, if_neg h2]
  by_cases h3 : op = 54
  · rw [if_pos h3, if_pos h3]; cases a <;> rfl
  rw [if_neg h3, if_neg h3]
  by_cases h4 : op = 55
  · rw [if_pos h4, if_pos h4]; cases a <;> rfl
  rw [if_neg h4, if_neg h4]
  rfl
def binV (op : Int) (s : Int) (b : Bool) (n : Int) (t : ByteArray) (s' : Int) (b' : Bool) (n' : Int) (t' : ByteArray) : V5 :=
  if (isBin op && (rightB s b n t && rightB s' b' n' t')) = true then
    (if s = s' then (if s = 2 then numV op n n' else if s = 3 then txtV op t t' else boolV op b b') else erV 81)
  else erV 1
theorem bin_is (k : Nat) (op : Int) (s : Int) (b : Bool) (n : Int) (t : ByteArray) (s' : Int) (b' : Bool) (n' : Int) (t' : ByteArray) (h0 : 0 ≤ op) (hn : In64 n) (hn' : In64 n') (ht : t.size + t'.size ≤ 1000000000000000000) :
    consts_Binary.f (k + 5) op s b n t s' b' n' t' = some (binV op s b n t s' b' n' t') := by
  unfold consts_Binary.f binV
  rw [binary_is _ _ h0, right_is, right_is]
  simp only [Option.bind_some]
  cases isBin op
  · simp only [Bool.false_eq_true, if_false, Bool.false_and]
    simp only [consts_Binary.j0, if_true]
    rfl
  simp only [if_true, Bool.true_and]
  cases rightB s b n t
  · simp only [Bool.false_eq_true, if_false, Bool.false_and]
    simp only [consts_Binary.j0, if_true]
    rfl
  simp only [if_true, Bool.true_and]
  cases rightB s' b' n' t'
  · simp only [Bool.not_false, Bool.false_eq_true, if_false]
    simp only [consts_Binary.j0, if_true]
    rfl
  simp only [Bool.not_true, if_true]
  simp only [consts_Binary.j0]
  rw [if_neg (by simp)]
  by_cases e : s = s'
  · rw [if_pos e, if_pos e]
    by_cases h2 : s = 2
    · rw [if_pos h2, if_pos h2, num_is k op n n' hn hn']; rfl
    rw [if_neg h2, if_neg h2]
    by_cases h3 : s = 3
    · rw [if_pos h3, if_pos h3, txt_is _ op t t' h0 ht]; rfl
    rw [if_neg h3, if_neg h3, bool_is]; rfl
  · rw [if_neg e, if_neg e]; rfl
end Go.Proofs.YteklmgmhkmdddaaDoor.Q

-- ConstArith, plainly: numbers without bounds, wherever they lie within them
namespace Go.Proofs.YteklmgmhkmdddaaDoor.Q
open Go.RowKit Go.Proofs.YteklmgmhkmdddaaDoor.S Go.Proofs.YteklmgmhkmdddaaDoorW.PrintWords Go.Proofs.YteklmgmhkmdddaaDoorW.PrintLast Go.Proofs.YteklmgmhkmdddaaDoorW.PrintMore
set_option linter.unusedSimpArgs false
set_option linter.unusedVariables false
theorem rightN' (n : Int) : rightB 2 false n ⟨#[]⟩ = true := by
  unfold rightB
  rw [if_neg (by decide), if_pos rfl, nil_list]
  rfl
theorem binN (op a b : Int) (h0 : 0 ≤ op) (h : isBin op = true) (ha : In64 a) (hb : In64 b) (V : V5) (hV : numV op a b = V) : consts_Binary.f 5 op 2 false a ⟨#[]⟩ 2 false b ⟨#[]⟩ = some V := by
  rw [bin_is 0 op 2 false a ⟨#[]⟩ 2 false b ⟨#[]⟩ h0 ha hb (by decide)]
  unfold binV
  rw [rightN', rightN', h, if_pos (by decide), if_pos rfl, if_pos rfl, hV]
theorem fit_ok {n : Int} (h : In64 n) : fit n = okN n := if_pos h
theorem fit_er {n : Int} (h : ¬ In64 n) : fit n = erV 80 := if_neg h
theorem sub_back {a b : Int} (ha : In64 a) : numV 33 (a + b) b = okN a := by
  show fit (a + b - b) = _
  rw [show a + b - b = a by omega, fit_ok ha]
theorem quo_ok {a b : Int} (ha : In64 a) (hb : In64 b) (h0 : b ≠ 0) (hs : ¬ (a = -9223372036854775808 ∧ b = -1)) : numV 35 a b = okN (Int.tdiv a b) ∧ In64 (Int.tdiv a b) := by
  have h := tdiv_in ha hb h0 hs
  refine ⟨?_, h⟩
  show (if b = 0 then erV 80 else fit (Int.tdiv a b)) = _
  rw [if_neg h0, fit_ok h]
theorem quo_er {a b : Int} (h : b = 0 ∨ (a = -9223372036854775808 ∧ b = -1)) : numV 35 a b = erV 80 := by
  show (if b = 0 then erV 80 else fit (Int.tdiv a b)) = _
  by_cases h0 : b = 0
  · rw [if_pos h0]
  · rw [if_neg h0]
    obtain ⟨rfl, rfl⟩ : a = -9223372036854775808 ∧ b = -1 := by omega
    rfl
theorem rem_ok {a b : Int} (h0 : b ≠ 0) : numV 36 a b = okN (Int.tmod a b) := by
  show (if b = 0 then erV 80 else okN (Int.tmod a b)) = _
  rw [if_neg h0]
theorem mod_in {a b : Int} (ha : In64 a) (h0 : b ≠ 0) : In64 (Int.tmod a b) := by
  unfold In64 at *
  have h1 : (Int.tmod a b).natAbs ≤ a.natAbs := by rw [Int.natAbs_tmod]; exact Nat.mod_le _ _
  by_cases hm : a = -9223372036854775808
  · by_cases hp : 0 ≤ Int.tmod a b
    · have : Int.tmod a b ≠ 9223372036854775808 := by
        intro e
        have h5 := Int.tmod_nonneg b (show 0 ≤ -a by omega)
        rw [Int.neg_tmod] at h5
        omega
      omega
    · omega
  · omega
theorem whole_in {a b : Int} (ha : In64 a) (hb : In64 b) (h0 : b ≠ 0) : In64 (Int.tdiv a b * b) := by
  have e := Int.mul_tdiv_add_tmod a b
  rw [Int.mul_comm] at e
  unfold In64 at *
  by_cases hp : 0 ≤ a
  · have h1 := Int.tmod_nonneg b hp
    have h2 : 0 ≤ Int.tdiv a b * b := by
      have h3 : (Int.tmod a b).natAbs ≤ a.natAbs := by rw [Int.natAbs_tmod]; exact Nat.mod_le _ _
      omega
    omega
  · have h1 := Int.tmod_nonneg b (show 0 ≤ -a by omega)
    rw [Int.neg_tmod] at h1
    have h3 : (Int.tmod a b).natAbs ≤ a.natAbs := by rw [Int.natAbs_tmod]; exact Nat.mod_le _ _
    omega
theorem whole_ok {a b : Int} (ha : In64 a) (hb : In64 b) (h0 : b ≠ 0) : numV 34 (Int.tdiv a b) b = okN (Int.tdiv a b * b) := by
  show fit (Int.tdiv a b * b) = _
  rw [fit_ok (whole_in ha hb h0)]
theorem all_ok {a b : Int} (ha : In64 a) : numV 32 (Int.tdiv a b * b) (Int.tmod a b) = okN a := by
  show fit (Int.tdiv a b * b + Int.tmod a b) = _
  have e := Int.mul_tdiv_add_tmod a b
  rw [Int.mul_comm] at e
  rw [e, fit_ok ha]
theorem shl_er {a n : Int} (h : (n < 0 ∨ n > 63) ∨ ¬ In64 (a * 2 ^ n.toNat)) : numV 40 a n = erV 80 := by
  show (if n < 0 ∨ n > 63 then erV 80 else fit (a * 2 ^ n.toNat)) = _
  by_cases c : n < 0 ∨ n > 63
  · rw [if_pos c]
  · rw [if_neg c]
    rcases h with h | h
    · exact absurd h c
    · exact fit_er h
theorem shl_ok {a n : Int} (h : ¬ (n < 0 ∨ n > 63)) (h2 : In64 (a * 2 ^ n.toNat)) : numV 40 a n = okN (a * 2 ^ n.toNat) := by
  show (if n < 0 ∨ n > 63 then erV 80 else fit (a * 2 ^ n.toNat)) = _
  rw [if_neg h, fit_ok h2]
theorem shr_back {a n : Int} (h : ¬ (n < 0 ∨ n > 63)) : numV 41 (a * 2 ^ n.toNat) n = okN a := by
  show (if n < 0 ∨ n > 63 then erV 80 else okN (a * 2 ^ n.toNat / 2 ^ n.toNat)) = _
  rw [if_neg h, Int.mul_ediv_cancel a (by have := pow_pos2 n.toNat; omega)]
theorem and_not (a b : Int) : numV 37 b (wrap64 (-1 - a)) = numV 42 b a := by
  show okN (Go.bits .and .i64 b (wrap64 (-1 - a))) = okN (Go.bits .andNot .i64 b a)
  have h : Go.bits .and .i64 b (wrap64 (-1 - a)) = Go.bits .andNot .i64 b a := by
    show IntKind.i64.wrap ((BitVec.ofInt 64 b &&& BitVec.ofInt 64 (wrap64 (-1 - a))).toNat : Int) = IntKind.i64.wrap ((BitVec.ofInt 64 b &&& ~~~ BitVec.ofInt 64 a).toNat : Int)
    have e : BitVec.ofInt 64 (wrap64 (-1 - a)) = ~~~ BitVec.ofInt 64 a := by
      apply BitVec.eq_of_toInt_eq
      rw [BitVec.toInt_ofInt, BitVec.toInt_not, BitVec.toNat_ofInt]
      unfold wrap64
      simp only [Int.bmod]
      omega
    rw [e]
  rw [h]
end Go.Proofs.YteklmgmhkmdddaaDoor.Q

-- A text of this session's own program (wip/myprint.sh over a changed print tool): functions and their walks
namespace Go.Proofs.YteklmgmhkmdddaaDoor.S
open Go.RowKit Go.Proofs.YteklmgmhkmdddaaDoorW.PrintWords Go.Proofs.YteklmgmhkmdddaaDoorW.PrintLast Go.Proofs.YteklmgmhkmdddaaDoorW.PrintMore
attribute [local go_sem] max2_int min2_int max_two min_two max_three min_three max_four min_four   -- for this text's walks alone
set_option linter.unusedVariables false
set_option linter.unusedSimpArgs false

/-! ### consts_within: function 30 -/
def consts_within.f (a0 : Int) (a1 : Bool) : Option (Int × Bool × Int × ByteArray × Int) := if a1 = true then ((consts_number.f a0).bind fun bt119 => (some (bt119.1, bt119.2.1, bt119.2.2.1, bt119.2.2.2, 0))) else (some (0, false, 0, (⟨#[]⟩ : ByteArray), 80))
set_option maxHeartbeats 8000000 in
set_option maxRecDepth 100000 in
theorem consts_within.calls (a0 : Int) (a1 : Bool) (r1 : Int) (r2 : Bool) (r3 : Int) (r4 : ByteArray) (r5 : Int) (w : World) (h : consts_within.f a0 a1 = some (r1, r2, r3, r4, r5)) :
    Calls Tryd.prog 30 #[.int .i64 a0, .bool a1] w fun e w' => e = .returned (.tuple #[.agg #[.int .u8 r1, .bool r2, .int .i64 r3, .string r4], .int .i64 r5]) ∧ Below w.heap.size w w' := by
  have hu25 := Tryd.underlying25
  have HB := Aside0.mk (Below.refl w.heap.size w)
  have H : (if a1 = true then ((consts_number.f a0).bind fun bt119 => (some (bt119.1, bt119.2.1, bt119.2.2.1, bt119.2.2.2, 0))) else (some (0, false, 0, (⟨#[]⟩ : ByteArray), 80))) = some (r1, r2, r3, r4, r5) := h
  clear h
  by_cases c3 : a1 = true
  · subst c3
    have H1 : ((consts_number.f a0).bind fun bt119 => (some (bt119.1, bt119.2.1, bt119.2.2.1, bt119.2.2.2, 0))) = some (r1, r2, r3, r4, r5) := by rw [if_pos rfl] at H; exact H
    clear H
    have H := H1
    clear H1
    replace H := Option.bind_eq_some_iff.mp H
    obtain ⟨⟨t119, t120, t121, t122⟩, A40, H⟩ := H
    replace H : (some (t119, t120, t121, t122, 0)) = some (r1, r2, r3, r4, r5) := H
    have A4 := Aside0.mk A40
    clear A40
    simp only [Option.some.injEq, Prod.mk.injEq] at H
    obtain ⟨rfl, rfl, rfl, rfl, rfl⟩ := H
    go_enter Tryd.func30, Tryd.ntmps30
    go_wp2_with (first | ((with_reducible refine gate_dst (N := 4) rfl ?_); refine box_event ?hg (N := 4) ?hd (cs := #[.int .u8 0, .bool false, .int .i64 0, .string (⟨#[]⟩ : ByteArray)]) (t := 25) ?hr ?_; (case hd => rfl); (case hg => rfl); (case hr => first | (go_simp; done) | (go_simp; rfl)); intro gb118 hg w5 hbox hb; have n0_ := Aside0.mk (below_step (by repeat (first | (with_reducible first | exact HB.out | apply below_alloc | apply pw_below_drewN | apply below_drew1) | exact HB.out)) hb); have n1_ := Aside0.mk (hbox); have n2_ := Aside0.mk ((by rw [hg]; exact (below_size (by repeat (first | (with_reducible first | exact HB.out | apply below_alloc | apply pw_below_drewN | apply below_drew1) | exact HB.out))) : w.heap.size ≤ gb118)); have n3_ := Aside0.mk ((by rw [hg]; exact (below_size (by repeat (first | (with_reducible first | exact HB.out | apply below_alloc | apply pw_below_drewN | apply below_drew1) | exact HB.out))) : w.heap.size ≤ gb118)); clear HB; have HB := n0_; have BK118 := n1_; have GW118 := n2_; have GE118 := n3_; clear n0_ n1_ n2_ n3_; clear hb hbox hg) | ((with_reducible refine gate_callee (f := 31) rfl ?_); refine goesL_ (some 10) rfl rfl Tryd.func31 (by kernel_rfl) rfl #[.int .i64 a0] rfl (by (try simp only [List.map_toArray, List.map_cons, List.map_nil]); first | done | rfl | (simp only [List.length_drop, List.length_take]; rfl)) ?_; (with_reducible refine (consts_number.calls a0 t119 t120 t121 t122 _ A4.out).mono ?_); rintro e w6 ⟨rfl, hb⟩; refine ⟨_, rfl, ?_⟩; have n0_ := Aside0.mk (blk_below (g := gb118) (o := .cells #[.int .u8 0, .bool false, .int .i64 0, .string (⟨#[]⟩ : ByteArray)] 25 (0, 0)) (by (with_reducible repeat (first | refine blk_drewN ?_ _ | refine blk_drew ?_ | refine blk_alloc ?_ _)); exact BK118.out) hb); have n1_ := Aside0.mk (below_step (by repeat (first | (with_reducible first | exact HB.out | apply below_alloc | apply pw_below_drewN | apply below_drew1 | refine below_set ?_ GE118.out) | exact HB.out)) hb); clear BK118; clear HB; have BK118 := n0_; have HB := n1_; clear n0_ n1_; (try clear hb); (try clear hb2); (try clear hk); (try clear hi); have hcz7_0 : w6.cell? ⟨gb118, 0, none⟩ = some (.int .u8 0) := (blk_cell BK118.out 0).trans rfl; have hcz7_1 : w6.cell? ⟨gb118, 1, none⟩ = some (.bool false) := (blk_cell BK118.out 1).trans rfl; have hcz7_2 : w6.cell? ⟨gb118, 2, none⟩ = some (.int .i64 0) := (blk_cell BK118.out 2).trans rfl; have hcz7_3 : w6.cell? ⟨gb118, 3, none⟩ = some (.string (⟨#[]⟩ : ByteArray)) := (blk_cell BK118.out 3).trans rfl; have hfz7_0 := blk_frozen BK118.out 0; have hfz7_1 := blk_frozen BK118.out 1; have hfz7_2 := blk_frozen BK118.out 2; have hfz7_3 := blk_frozen BK118.out 3))
    refine bodyPost_ret (results_ct rfl _ _ gb118 25 #[.int .u8 t119, .bool t120, .int .i64 t121, .string t122] (0, 0) _ rfl (by (with_reducible repeat (first | refine blk_drewN ?_ _ | refine blk_drew ?_ | refine blk_alloc ?_ _)); refine blk_put (cs := #[.int .u8 t119, .bool t120, .int .i64 t121, .string (⟨#[]⟩ : ByteArray)]) ?_ 3 _ rfl; (with_reducible repeat (first | refine blk_drewN ?_ _ | refine blk_drew ?_ | refine blk_alloc ?_ _)); refine blk_put (cs := #[.int .u8 t119, .bool t120, .int .i64 0, .string (⟨#[]⟩ : ByteArray)]) ?_ 2 _ rfl; (with_reducible repeat (first | refine blk_drewN ?_ _ | refine blk_drew ?_ | refine blk_alloc ?_ _)); refine blk_put (cs := #[.int .u8 t119, .bool false, .int .i64 0, .string (⟨#[]⟩ : ByteArray)]) ?_ 1 _ rfl; (with_reducible repeat (first | refine blk_drewN ?_ _ | refine blk_drew ?_ | refine blk_alloc ?_ _)); refine blk_put (cs := #[.int .u8 0, .bool false, .int .i64 0, .string (⟨#[]⟩ : ByteArray)]) ?_ 0 _ rfl; (with_reducible repeat (first | refine blk_drewN ?_ _ | refine blk_drew ?_ | refine blk_alloc ?_ _)); exact BK118.out) Tryd.underlying25 rfl (by kernel_rfl)) rfl ?_
    exact ⟨by first | rfl | (simp [errW_none, errW_some] <;> rfl) | (simp [*, errW_none, errW_some] <;> rfl), by repeat (first | (with_reducible first | exact HB.out | apply below_alloc | apply pw_below_drewN | apply below_drew1 | refine below_set ?_ GE118.out) | exact HB.out)⟩
  · replace c3 := Bool.eq_false_iff.mpr c3
    subst c3
    have H1 : (some (0, false, 0, (⟨#[]⟩ : ByteArray), 80)) = some (r1, r2, r3, r4, r5) := by rw [if_neg (show ¬ (false = true) by decide)] at H; exact H
    clear H
    have H := H1
    clear H1
    simp only [Option.some.injEq, Prod.mk.injEq] at H
    obtain ⟨rfl, rfl, rfl, rfl, rfl⟩ := H
    go_enter Tryd.func30, Tryd.ntmps30
    go_wp2_with (first | ((with_reducible refine gate_dst (N := 4) rfl ?_); refine box_event ?hg (N := 4) ?hd (cs := #[.int .u8 0, .bool false, .int .i64 0, .string (⟨#[]⟩ : ByteArray)]) (t := 25) ?hr ?_; (case hd => rfl); (case hg => rfl); (case hr => first | (go_simp; done) | (go_simp; rfl)); intro gb118 hg w8 hbox hb; have n0_ := Aside0.mk (below_step (by repeat (first | (with_reducible first | exact HB.out | apply below_alloc | apply pw_below_drewN | apply below_drew1) | exact HB.out)) hb); have n1_ := Aside0.mk (hbox); have n2_ := Aside0.mk ((by rw [hg]; exact (below_size (by repeat (first | (with_reducible first | exact HB.out | apply below_alloc | apply pw_below_drewN | apply below_drew1) | exact HB.out))) : w.heap.size ≤ gb118)); have n3_ := Aside0.mk ((by rw [hg]; exact (below_size (by repeat (first | (with_reducible first | exact HB.out | apply below_alloc | apply pw_below_drewN | apply below_drew1) | exact HB.out))) : w.heap.size ≤ gb118)); clear HB; have HB := n0_; have BK118 := n1_; have GW118 := n2_; have GE118 := n3_; clear n0_ n1_ n2_ n3_; clear hb hbox hg; have hcz9_0 : w8.cell? ⟨gb118, 0, none⟩ = some (.int .u8 0) := (blk_cell BK118.out 0).trans rfl; have hcz9_1 : w8.cell? ⟨gb118, 1, none⟩ = some (.bool false) := (blk_cell BK118.out 1).trans rfl; have hcz9_2 : w8.cell? ⟨gb118, 2, none⟩ = some (.int .i64 0) := (blk_cell BK118.out 2).trans rfl; have hcz9_3 : w8.cell? ⟨gb118, 3, none⟩ = some (.string (⟨#[]⟩ : ByteArray)) := (blk_cell BK118.out 3).trans rfl; have hfz9_0 := blk_frozen BK118.out 0; have hfz9_1 := blk_frozen BK118.out 1; have hfz9_2 := blk_frozen BK118.out 2; have hfz9_3 := blk_frozen BK118.out 3))
    refine bodyPost_ret (results_ct rfl _ _ gb118 25 #[.int .u8 0, .bool false, .int .i64 0, .string (⟨#[]⟩ : ByteArray)] (0, 0) _ rfl (by (with_reducible repeat (first | refine blk_drewN ?_ _ | refine blk_drew ?_ | refine blk_alloc ?_ _)); refine blk_put (cs := #[.int .u8 0, .bool false, .int .i64 0, .string (⟨#[]⟩ : ByteArray)]) ?_ 3 _ rfl; (with_reducible repeat (first | refine blk_drewN ?_ _ | refine blk_drew ?_ | refine blk_alloc ?_ _)); refine blk_put (cs := #[.int .u8 0, .bool false, .int .i64 0, .string (⟨#[]⟩ : ByteArray)]) ?_ 2 _ rfl; (with_reducible repeat (first | refine blk_drewN ?_ _ | refine blk_drew ?_ | refine blk_alloc ?_ _)); refine blk_put (cs := #[.int .u8 0, .bool false, .int .i64 0, .string (⟨#[]⟩ : ByteArray)]) ?_ 1 _ rfl; (with_reducible repeat (first | refine blk_drewN ?_ _ | refine blk_drew ?_ | refine blk_alloc ?_ _)); refine blk_put (cs := #[.int .u8 0, .bool false, .int .i64 0, .string (⟨#[]⟩ : ByteArray)]) ?_ 0 _ rfl; (with_reducible repeat (first | refine blk_drewN ?_ _ | refine blk_drew ?_ | refine blk_alloc ?_ _)); exact BK118.out) Tryd.underlying25 rfl (by kernel_rfl)) rfl ?_
    exact ⟨by first | rfl | (simp [errW_none, errW_some] <;> rfl) | (simp [*, errW_none, errW_some] <;> rfl), by repeat (first | (with_reducible first | exact HB.out | apply below_alloc | apply pw_below_drewN | apply below_drew1 | refine below_set ?_ GE118.out) | exact HB.out)⟩

end Go.Proofs.YteklmgmhkmdddaaDoor.S

-- A text of this session's own program (wip/myprint.sh over a changed print tool): functions and their walks
namespace Go.Proofs.YteklmgmhkmdddaaDoor.S
open Go.RowKit Go.Proofs.YteklmgmhkmdddaaDoorW.PrintWords Go.Proofs.YteklmgmhkmdddaaDoorW.PrintLast Go.Proofs.YteklmgmhkmdddaaDoorW.PrintMore
attribute [local go_sem] max2_int min2_int max_two min_two max_three min_three max_four min_four   -- for this text's walks alone
set_option linter.unusedVariables false
set_option linter.unusedSimpArgs false

/-! ### consts_Unary: function 15 -/
def consts_Unary.j0 : Nat → Int → Bool → Int → Bool → Int → ByteArray → Option (Int × Bool × Int × ByteArray × Int)
  | 0, _, _, _, _, _, _ => none
  | k + 1, x0, x24, x510000, x510001, x510002, x510003 => if x24 = true then (some (0, false, 0, (⟨#[]⟩ : ByteArray), 1)) else (if x0 = 63 then (if x510000 = 1 then ((consts_truth.f (!x510001)).bind fun bt515 => (some (bt515.1, bt515.2.1, bt515.2.2.1, bt515.2.2.2, 0))) else (some (0, false, 0, (⟨#[]⟩ : ByteArray), 81))) else (if x510000 = 2 then (if x0 = 33 then ((consts_within.f (wrap64 (-x510002)) (x510002 != (-9223372036854775808))).bind fun bt519 => (some (bt519.1, bt519.2.1, bt519.2.2.1, bt519.2.2.2.1, bt519.2.2.2.2))) else (if x0 = 39 then ((consts_number.f (Go.bits .xor .i64 (-1) x510002)).bind fun bt524 => (some (bt524.1, bt524.2.1, bt524.2.2.1, bt524.2.2.2, 0))) else (some (x510000, x510001, x510002, x510003, 0)))) else (some (0, false, 0, (⟨#[]⟩ : ByteArray), 81))))
def consts_Unary.f (k : Nat) (a0 : Int) (a1_0 : Int) (a1_1 : Bool) (a1_2 : Int) (a1_3 : ByteArray) : Option (Int × Bool × Int × ByteArray × Int) := if a0 = 32 then ((consts_right.f a1_0 a1_1 a1_2 a1_3).bind fun t511 => (consts_Unary.j0 k a0 (!t511) a1_0 a1_1 a1_2 a1_3)) else (if a0 = 33 then ((consts_right.f a1_0 a1_1 a1_2 a1_3).bind fun t512 => (consts_Unary.j0 k a0 (!t512) a1_0 a1_1 a1_2 a1_3)) else (if a0 = 39 then ((consts_right.f a1_0 a1_1 a1_2 a1_3).bind fun t513 => (consts_Unary.j0 k a0 (!t513) a1_0 a1_1 a1_2 a1_3)) else (if a0 = 63 then ((consts_right.f a1_0 a1_1 a1_2 a1_3).bind fun t514 => (consts_Unary.j0 k a0 (!t514) a1_0 a1_1 a1_2 a1_3)) else (consts_Unary.j0 k a0 true a1_0 a1_1 a1_2 a1_3))))
set_option maxHeartbeats 8000000 in
set_option maxRecDepth 100000 in
theorem consts_Unary.calls (k : Nat) (a0 : Int) (a1_0 : Int) (a1_1 : Bool) (a1_2 : Int) (a1_3 : ByteArray) (r1 : Int) (r2 : Bool) (r3 : Int) (r4 : ByteArray) (r5 : Int) (w : World) (h : consts_Unary.f k a0 a1_0 a1_1 a1_2 a1_3 = some (r1, r2, r3, r4, r5)) :
    Calls Tryd.prog 15 #[.int .u8 a0, .agg #[.int .u8 a1_0, .bool a1_1, .int .i64 a1_2, .string a1_3]] w fun e w' => e = .returned (.tuple #[.agg #[.int .u8 r1, .bool r2, .int .i64 r3, .string r4], .int .i64 r5]) ∧ Below w.heap.size w w' := by
  have hu25 := Tryd.underlying25
  have HB := Aside0.mk (Below.refl w.heap.size w)
  have H : (if a0 = 32 then ((consts_right.f a1_0 a1_1 a1_2 a1_3).bind fun t511 => (consts_Unary.j0 k a0 (!t511) a1_0 a1_1 a1_2 a1_3)) else (if a0 = 33 then ((consts_right.f a1_0 a1_1 a1_2 a1_3).bind fun t512 => (consts_Unary.j0 k a0 (!t512) a1_0 a1_1 a1_2 a1_3)) else (if a0 = 39 then ((consts_right.f a1_0 a1_1 a1_2 a1_3).bind fun t513 => (consts_Unary.j0 k a0 (!t513) a1_0 a1_1 a1_2 a1_3)) else (if a0 = 63 then ((consts_right.f a1_0 a1_1 a1_2 a1_3).bind fun t514 => (consts_Unary.j0 k a0 (!t514) a1_0 a1_1 a1_2 a1_3)) else (consts_Unary.j0 k a0 true a1_0 a1_1 a1_2 a1_3))))) = some (r1, r2, r3, r4, r5) := h
  clear h
  have HC3 := Aside0.mk H
  clear H
  go_enter Tryd.func15, Tryd.ntmps15
  go_upto_region 1 with (first | ((with_reducible refine gate_dst (N := 3) rfl ?_); refine box_event ?hg (N := 3) ?hd (cs := #[.int .u8 a1_0, .bool a1_1, .int .i64 a1_2, .string a1_3]) (t := 25) ?hr ?_; (case hd => rfl); (case hg => rfl); (case hr => first | (go_simp; done) | (go_simp; rfl)); intro gb509 hg w4 hbox hb; have n0_ := Aside0.mk (below_step (by repeat (first | (with_reducible first | exact HB.out | apply below_alloc | apply pw_below_drewN | apply below_drew1) | exact HB.out)) hb); have n1_ := Aside0.mk (hbox); have n2_ := Aside0.mk ((by rw [hg]; exact (below_size (by repeat (first | (with_reducible first | exact HB.out | apply below_alloc | apply pw_below_drewN | apply below_drew1) | exact HB.out))) : w.heap.size ≤ gb509)); have n3_ := Aside0.mk ((by rw [hg]; exact (below_size (by repeat (first | (with_reducible first | exact HB.out | apply below_alloc | apply pw_below_drewN | apply below_drew1) | exact HB.out))) : w.heap.size ≤ gb509)); clear HB; have HB := n0_; have BK509 := n1_; have GW509 := n2_; have GE509 := n3_; clear n0_ n1_ n2_ n3_; clear hb hbox hg) | ((with_reducible refine gate_dst (N := 4) rfl ?_); refine box_event ?hg (N := 4) ?hd (cs := #[.int .u8 0, .bool false, .int .i64 0, .string (⟨#[]⟩ : ByteArray)]) (t := 25) ?hr ?_; (case hd => rfl); (case hg => rfl); (case hr => first | (go_simp; done) | (go_simp; rfl)); intro gb510 hg w5 hbox hb; have n0_ := Aside0.mk (blk_below (g := gb509) (o := .cells #[.int .u8 a1_0, .bool a1_1, .int .i64 a1_2, .string a1_3] 25 (0, 0)) (by (with_reducible repeat (first | refine blk_drewN ?_ _ | refine blk_drew ?_ | refine blk_alloc ?_ _)); exact BK509.out) hb); have n1_ := Aside0.mk (below_step (by repeat (first | (with_reducible first | exact HB.out | apply below_alloc | apply pw_below_drewN | apply below_drew1 | refine below_set ?_ GE509.out) | exact HB.out)) hb); have n2_ := Aside0.mk (hbox); have n3_ := Aside0.mk ((by rw [hg]; exact (below_size (by repeat (first | (with_reducible first | exact HB.out | apply below_alloc | apply pw_below_drewN | apply below_drew1 | refine below_set ?_ GE509.out) | exact HB.out))) : w.heap.size ≤ gb510)); have n4_ := Aside0.mk ((by rw [hg]; exact (below_size (by repeat (first | (with_reducible first | exact HB.out | apply below_alloc | apply pw_below_drewN | apply below_drew1 | refine below_set ?_ GE509.out) | exact HB.out))) : w.heap.size ≤ gb510)); have n5_ := Aside0.mk ((by rw [hg]; exact Nat.ne_of_lt (blk_lt (g := gb509) (o := .cells #[.int .u8 a1_0, .bool a1_1, .int .i64 a1_2, .string a1_3] 25 (0, 0)) (by (with_reducible repeat (first | refine blk_drewN ?_ _ | refine blk_drew ?_ | refine blk_alloc ?_ _)); exact BK509.out)) : gb509 ≠ gb510)); have n6_ := Aside0.mk ((by rw [hg]; exact Nat.ne_of_gt (blk_lt (g := gb509) (o := .cells #[.int .u8 a1_0, .bool a1_1, .int .i64 a1_2, .string a1_3] 25 (0, 0)) (by (with_reducible repeat (first | refine blk_drewN ?_ _ | refine blk_drew ?_ | refine blk_alloc ?_ _)); exact BK509.out)) : gb510 ≠ gb509)); clear BK509; clear HB; have BK509 := n0_; have HB := n1_; have BK510 := n2_; have GW510 := n3_; have GE510 := n4_; have NB509_510 := n5_; have NB510_509 := n6_; clear n0_ n1_ n2_ n3_ n4_ n5_ n6_; clear hb hbox hg))
  (try simp only [Act.put, List.setIfInBounds_toArray, List.set_cons_zero, List.set_cons_succ])
  go_cut [24] (fun v24 wc => ∃ (kq : Nat) (x24_2 : Bool), v24 = .bool x24_2 ∧ Aside0 (consts_Unary.j0 kq a0 x24_2 a1_0 a1_1 a1_2 a1_3 = some (r1, r2, r3, r4, r5)) ∧ Aside0 (kq ≤ k) ∧ Aside0 (wc.heap[gb509]? = some (.cells #[.int .u8 a1_0, .bool a1_1, .int .i64 a1_2, .string a1_3] 25 (0, 0))) ∧ Aside0 (wc.heap[gb510]? = some (.cells #[.int .u8 0, .bool false, .int .i64 0, .string (⟨#[]⟩ : ByteArray)] 25 (0, 0))) ∧ Aside0 (Below w.heap.size w wc))
  case first =>
    have H := HC3.out
    clear HC3
    by_cases c6 : a0 = 32
    · rw [if_pos c6] at H
      have c6b0 : (a0 == 32) = true := beq_iff_eq.mpr c6
      have c6b1 : (a0 != 32) = false := bne_eq_false_iff_eq.mpr c6
      clear c6
      (first | rw [c6b0] | (simp only [i64_w, i32_w]; rw [c6b0]) | skip)
      replace H := Option.bind_eq_some_iff.mp H
      obtain ⟨t511, A70, H⟩ := H
      replace H : (consts_Unary.j0 k a0 (!t511) a1_0 a1_1 a1_2 a1_3) = some (r1, r2, r3, r4, r5) := H
      have A7 := Aside0.mk A70
      clear A70
      have H' := Aside0.mk H
      clear H
      have hnb8 := NB509_510.out
      have hnc8 := NB510_509.out
      have hcz9_0 : w5.cell? ⟨gb509, 0, none⟩ = some (.int .u8 a1_0) := (blk_cell BK509.out 0).trans rfl
      have hcz9_1 : w5.cell? ⟨gb509, 1, none⟩ = some (.bool a1_1) := (blk_cell BK509.out 1).trans rfl
      have hcz9_2 : w5.cell? ⟨gb509, 2, none⟩ = some (.int .i64 a1_2) := (blk_cell BK509.out 2).trans rfl
      have hcz9_3 : w5.cell? ⟨gb509, 3, none⟩ = some (.string a1_3) := (blk_cell BK509.out 3).trans rfl
      have hfz9_0 := blk_frozen BK509.out 0
      have hfz9_1 := blk_frozen BK509.out 1
      have hfz9_2 := blk_frozen BK509.out 2
      have hfz9_3 := blk_frozen BK509.out 3
      go_wp2_with (first | (go_at_call 17; (with_reducible refine (consts_right.calls a1_0 a1_1 a1_2 a1_3 t511 _ A7.out).mono ?_); rintro e w10 ⟨rfl, hb⟩; have n0_ := Aside0.mk (blk_below (g := gb509) (o := .cells #[.int .u8 a1_0, .bool a1_1, .int .i64 a1_2, .string a1_3] 25 (0, 0)) (by (with_reducible repeat (first | refine blk_drewN ?_ _ | refine blk_drew ?_ | refine blk_alloc ?_ _)); exact BK509.out) hb); have n1_ := Aside0.mk (blk_below (g := gb510) (o := .cells #[.int .u8 0, .bool false, .int .i64 0, .string (⟨#[]⟩ : ByteArray)] 25 (0, 0)) (by (with_reducible repeat (first | refine blk_drewN ?_ _ | refine blk_drew ?_ | refine blk_alloc ?_ _)); exact BK510.out) hb); have n2_ := Aside0.mk (below_step (by repeat (first | (with_reducible first | exact HB.out | apply below_alloc | apply pw_below_drewN | apply below_drew1 | refine below_set ?_ GE509.out | refine below_set ?_ GE510.out) | exact HB.out)) hb); clear BK509; clear BK510; clear HB; have BK509 := n0_; have BK510 := n1_; have HB := n2_; clear n0_ n1_ n2_; (try clear hb); (try clear hb2); (try clear hk); (try clear hi)))
      go_meet
      case rel => exact ⟨_, (!t511), (by first | rfl | (simp; done) | (simp [*]; done)), H', ⟨by first | omega | exact Nat.le_refl _⟩, ⟨by (with_reducible repeat (first | refine blk_drewN ?_ _ | refine blk_drew ?_ | refine blk_alloc ?_ _)); exact BK509.out⟩, ⟨by (with_reducible repeat (first | refine blk_drewN ?_ _ | refine blk_drew ?_ | refine blk_alloc ?_ _)); exact BK510.out⟩, ⟨by repeat (first | (with_reducible first | exact HB.out | apply below_alloc | apply pw_below_drewN | apply below_drew1 | refine below_set ?_ GE509.out | refine below_set ?_ GE510.out) | exact HB.out)⟩⟩
    · rw [if_neg c6] at H
      have c6b0 : (a0 == 32) = false := beq_eq_false_iff_ne.mpr c6
      have c6b1 : (a0 != 32) = true := bne_iff_ne.mpr c6
      (first | rw [c6b0] | (simp only [i64_w, i32_w]; rw [c6b0]) | skip)
      by_cases c11 : a0 = 33
      · rw [if_pos c11] at H
        have c11b0 : (a0 == 33) = true := beq_iff_eq.mpr c11
        have c11b1 : (a0 != 33) = false := bne_eq_false_iff_eq.mpr c11
        clear c11
        replace H := Option.bind_eq_some_iff.mp H
        obtain ⟨t512, A120, H⟩ := H
        replace H : (consts_Unary.j0 k a0 (!t512) a1_0 a1_1 a1_2 a1_3) = some (r1, r2, r3, r4, r5) := H
        have A12 := Aside0.mk A120
        clear A120
        have H' := Aside0.mk H
        clear H
        have hnb13 := NB509_510.out
        have hnc13 := NB510_509.out
        have hcz14_0 : w5.cell? ⟨gb509, 0, none⟩ = some (.int .u8 a1_0) := (blk_cell BK509.out 0).trans rfl
        have hcz14_1 : w5.cell? ⟨gb509, 1, none⟩ = some (.bool a1_1) := (blk_cell BK509.out 1).trans rfl
        have hcz14_2 : w5.cell? ⟨gb509, 2, none⟩ = some (.int .i64 a1_2) := (blk_cell BK509.out 2).trans rfl
        have hcz14_3 : w5.cell? ⟨gb509, 3, none⟩ = some (.string a1_3) := (blk_cell BK509.out 3).trans rfl
        have hfz14_0 := blk_frozen BK509.out 0
        have hfz14_1 := blk_frozen BK509.out 1
        have hfz14_2 := blk_frozen BK509.out 2
        have hfz14_3 := blk_frozen BK509.out 3
        go_wp2_with (first | (go_at_call 17; (with_reducible refine (consts_right.calls a1_0 a1_1 a1_2 a1_3 t512 _ A12.out).mono ?_); rintro e w15 ⟨rfl, hb⟩; have n0_ := Aside0.mk (blk_below (g := gb509) (o := .cells #[.int .u8 a1_0, .bool a1_1, .int .i64 a1_2, .string a1_3] 25 (0, 0)) (by (with_reducible repeat (first | refine blk_drewN ?_ _ | refine blk_drew ?_ | refine blk_alloc ?_ _)); exact BK509.out) hb); have n1_ := Aside0.mk (blk_below (g := gb510) (o := .cells #[.int .u8 0, .bool false, .int .i64 0, .string (⟨#[]⟩ : ByteArray)] 25 (0, 0)) (by (with_reducible repeat (first | refine blk_drewN ?_ _ | refine blk_drew ?_ | refine blk_alloc ?_ _)); exact BK510.out) hb); have n2_ := Aside0.mk (below_step (by repeat (first | (with_reducible first | exact HB.out | apply below_alloc | apply pw_below_drewN | apply below_drew1 | refine below_set ?_ GE509.out | refine below_set ?_ GE510.out) | exact HB.out)) hb); clear BK509; clear BK510; clear HB; have BK509 := n0_; have BK510 := n1_; have HB := n2_; clear n0_ n1_ n2_; (try clear hb); (try clear hb2); (try clear hk); (try clear hi)))
        go_meet
        case rel => exact ⟨_, (!t512), (by first | rfl | (simp; done) | (simp [*]; done)), H', ⟨by first | omega | exact Nat.le_refl _⟩, ⟨by (with_reducible repeat (first | refine blk_drewN ?_ _ | refine blk_drew ?_ | refine blk_alloc ?_ _)); exact BK509.out⟩, ⟨by (with_reducible repeat (first | refine blk_drewN ?_ _ | refine blk_drew ?_ | refine blk_alloc ?_ _)); exact BK510.out⟩, ⟨by repeat (first | (with_reducible first | exact HB.out | apply below_alloc | apply pw_below_drewN | apply below_drew1 | refine below_set ?_ GE509.out | refine below_set ?_ GE510.out) | exact HB.out)⟩⟩
      · rw [if_neg c11] at H
        have c11b0 : (a0 == 33) = false := beq_eq_false_iff_ne.mpr c11
        have c11b1 : (a0 != 33) = true := bne_iff_ne.mpr c11
        by_cases c16 : a0 = 39
        · rw [if_pos c16] at H
          have c16b0 : (a0 == 39) = true := beq_iff_eq.mpr c16
          have c16b1 : (a0 != 39) = false := bne_eq_false_iff_eq.mpr c16
          clear c16
          replace H := Option.bind_eq_some_iff.mp H
          obtain ⟨t513, A170, H⟩ := H
          replace H : (consts_Unary.j0 k a0 (!t513) a1_0 a1_1 a1_2 a1_3) = some (r1, r2, r3, r4, r5) := H
          have A17 := Aside0.mk A170
          clear A170
          have H' := Aside0.mk H
          clear H
          have hnb18 := NB509_510.out
          have hnc18 := NB510_509.out
          have hcz19_0 : w5.cell? ⟨gb509, 0, none⟩ = some (.int .u8 a1_0) := (blk_cell BK509.out 0).trans rfl
          have hcz19_1 : w5.cell? ⟨gb509, 1, none⟩ = some (.bool a1_1) := (blk_cell BK509.out 1).trans rfl
          have hcz19_2 : w5.cell? ⟨gb509, 2, none⟩ = some (.int .i64 a1_2) := (blk_cell BK509.out 2).trans rfl
          have hcz19_3 : w5.cell? ⟨gb509, 3, none⟩ = some (.string a1_3) := (blk_cell BK509.out 3).trans rfl
          have hfz19_0 := blk_frozen BK509.out 0
          have hfz19_1 := blk_frozen BK509.out 1
          have hfz19_2 := blk_frozen BK509.out 2
          have hfz19_3 := blk_frozen BK509.out 3
          go_wp2_with (first | (go_at_call 17; (with_reducible refine (consts_right.calls a1_0 a1_1 a1_2 a1_3 t513 _ A17.out).mono ?_); rintro e w20 ⟨rfl, hb⟩; have n0_ := Aside0.mk (blk_below (g := gb509) (o := .cells #[.int .u8 a1_0, .bool a1_1, .int .i64 a1_2, .string a1_3] 25 (0, 0)) (by (with_reducible repeat (first | refine blk_drewN ?_ _ | refine blk_drew ?_ | refine blk_alloc ?_ _)); exact BK509.out) hb); have n1_ := Aside0.mk (blk_below (g := gb510) (o := .cells #[.int .u8 0, .bool false, .int .i64 0, .string (⟨#[]⟩ : ByteArray)] 25 (0, 0)) (by (with_reducible repeat (first | refine blk_drewN ?_ _ | refine blk_drew ?_ | refine blk_alloc ?_ _)); exact BK510.out) hb); have n2_ := Aside0.mk (below_step (by repeat (first | (with_reducible first | exact HB.out | apply below_alloc | apply pw_below_drewN | apply below_drew1 | refine below_set ?_ GE509.out | refine below_set ?_ GE510.out) | exact HB.out)) hb); clear BK509; clear BK510; clear HB; have BK509 := n0_; have BK510 := n1_; have HB := n2_; clear n0_ n1_ n2_; (try clear hb); (try clear hb2); (try clear hk); (try clear hi)))
          go_meet
          case rel => exact ⟨_, (!t513), (by first | rfl | (simp; done) | (simp [*]; done)), H', ⟨by first | omega | exact Nat.le_refl _⟩, ⟨by (with_reducible repeat (first | refine blk_drewN ?_ _ | refine blk_drew ?_ | refine blk_alloc ?_ _)); exact BK509.out⟩, ⟨by (with_reducible repeat (first | refine blk_drewN ?_ _ | refine blk_drew ?_ | refine blk_alloc ?_ _)); exact BK510.out⟩, ⟨by repeat (first | (with_reducible first | exact HB.out | apply below_alloc | apply pw_below_drewN | apply below_drew1 | refine below_set ?_ GE509.out | refine below_set ?_ GE510.out) | exact HB.out)⟩⟩
        · rw [if_neg c16] at H
          have c16b0 : (a0 == 39) = false := beq_eq_false_iff_ne.mpr c16
          have c16b1 : (a0 != 39) = true := bne_iff_ne.mpr c16
          by_cases c21 : a0 = 63
          · rw [if_pos c21] at H
            have c21b0 : (a0 == 63) = true := beq_iff_eq.mpr c21
            have c21b1 : (a0 != 63) = false := bne_eq_false_iff_eq.mpr c21
            clear c21
            replace H := Option.bind_eq_some_iff.mp H
            obtain ⟨t514, A220, H⟩ := H
            replace H : (consts_Unary.j0 k a0 (!t514) a1_0 a1_1 a1_2 a1_3) = some (r1, r2, r3, r4, r5) := H
            have A22 := Aside0.mk A220
            clear A220
            have H' := Aside0.mk H
            clear H
            have hnb23 := NB509_510.out
            have hnc23 := NB510_509.out
            have hcz24_0 : w5.cell? ⟨gb509, 0, none⟩ = some (.int .u8 a1_0) := (blk_cell BK509.out 0).trans rfl
            have hcz24_1 : w5.cell? ⟨gb509, 1, none⟩ = some (.bool a1_1) := (blk_cell BK509.out 1).trans rfl
            have hcz24_2 : w5.cell? ⟨gb509, 2, none⟩ = some (.int .i64 a1_2) := (blk_cell BK509.out 2).trans rfl
            have hcz24_3 : w5.cell? ⟨gb509, 3, none⟩ = some (.string a1_3) := (blk_cell BK509.out 3).trans rfl
            have hfz24_0 := blk_frozen BK509.out 0
            have hfz24_1 := blk_frozen BK509.out 1
            have hfz24_2 := blk_frozen BK509.out 2
            have hfz24_3 := blk_frozen BK509.out 3
            go_wp2_with (first | (go_at_call 17; (with_reducible refine (consts_right.calls a1_0 a1_1 a1_2 a1_3 t514 _ A22.out).mono ?_); rintro e w25 ⟨rfl, hb⟩; have n0_ := Aside0.mk (blk_below (g := gb509) (o := .cells #[.int .u8 a1_0, .bool a1_1, .int .i64 a1_2, .string a1_3] 25 (0, 0)) (by (with_reducible repeat (first | refine blk_drewN ?_ _ | refine blk_drew ?_ | refine blk_alloc ?_ _)); exact BK509.out) hb); have n1_ := Aside0.mk (blk_below (g := gb510) (o := .cells #[.int .u8 0, .bool false, .int .i64 0, .string (⟨#[]⟩ : ByteArray)] 25 (0, 0)) (by (with_reducible repeat (first | refine blk_drewN ?_ _ | refine blk_drew ?_ | refine blk_alloc ?_ _)); exact BK510.out) hb); have n2_ := Aside0.mk (below_step (by repeat (first | (with_reducible first | exact HB.out | apply below_alloc | apply pw_below_drewN | apply below_drew1 | refine below_set ?_ GE509.out | refine below_set ?_ GE510.out) | exact HB.out)) hb); clear BK509; clear BK510; clear HB; have BK509 := n0_; have BK510 := n1_; have HB := n2_; clear n0_ n1_ n2_; (try clear hb); (try clear hb2); (try clear hk); (try clear hi)))
            go_meet
            case rel => exact ⟨_, (!t514), (by first | rfl | (simp; done) | (simp [*]; done)), H', ⟨by first | omega | exact Nat.le_refl _⟩, ⟨by (with_reducible repeat (first | refine blk_drewN ?_ _ | refine blk_drew ?_ | refine blk_alloc ?_ _)); exact BK509.out⟩, ⟨by (with_reducible repeat (first | refine blk_drewN ?_ _ | refine blk_drew ?_ | refine blk_alloc ?_ _)); exact BK510.out⟩, ⟨by repeat (first | (with_reducible first | exact HB.out | apply below_alloc | apply pw_below_drewN | apply below_drew1 | refine below_set ?_ GE509.out | refine below_set ?_ GE510.out) | exact HB.out)⟩⟩
          · rw [if_neg c21] at H
            have c21b0 : (a0 == 63) = false := beq_eq_false_iff_ne.mpr c21
            have c21b1 : (a0 != 63) = true := bne_iff_ne.mpr c21
            have H' := Aside0.mk H
            clear H
            go_wp2
            go_meet
            case rel => exact ⟨_, (true), (by first | rfl | (simp; done) | (simp [*]; done)), H', ⟨by first | omega | exact Nat.le_refl _⟩, ⟨by (with_reducible repeat (first | refine blk_drewN ?_ _ | refine blk_drew ?_ | refine blk_alloc ?_ _)); exact BK509.out⟩, ⟨by (with_reducible repeat (first | refine blk_drewN ?_ _ | refine blk_drew ?_ | refine blk_alloc ?_ _)); exact BK510.out⟩, ⟨by repeat (first | (with_reducible first | exact HB.out | apply below_alloc | apply pw_below_drewN | apply below_drew1 | refine below_set ?_ GE509.out | refine below_set ?_ GE510.out) | exact HB.out)⟩⟩
  case rest =>
    clear HC3
    try clear c1
    try clear c2
    try clear p2
    try clear c6
    try clear c6b0
    try clear c6b1
    try clear c8
    try clear c11
    try clear c11b0
    try clear c11b1
    try clear c13
    try clear c15
    try clear c16
    try clear c16b0
    try clear c16b1
    try clear c18
    try clear c21
    try clear c21b0
    try clear c21b1
    try clear c23
    try clear hcz14_0
    try clear hcz14_1
    try clear hcz14_2
    try clear hcz14_3
    try clear hcz19_0
    try clear hcz19_1
    try clear hcz19_2
    try clear hcz19_3
    try clear hcz24_0
    try clear hcz24_1
    try clear hcz24_2
    try clear hcz24_3
    try clear hcz9_0
    try clear hcz9_1
    try clear hcz9_2
    try clear hcz9_3
    try clear hfz14_0
    try clear hfz14_1
    try clear hfz14_2
    try clear hfz14_3
    try clear hfz19_0
    try clear hfz19_1
    try clear hfz19_2
    try clear hfz19_3
    try clear hfz24_0
    try clear hfz24_1
    try clear hfz24_2
    try clear hfz24_3
    try clear hfz9_0
    try clear hfz9_1
    try clear hfz9_2
    try clear hfz9_3
    obtain ⟨kq, x24_2, rfl, HA, HJ2, BK509, BK510, HB⟩ := hcut
    cases kq with
    | zero => exact absurd HA.out (by simp [consts_Unary.j0])
    | succ kj2 =>
      have H := HA.out
      clear HA
      simp only [consts_Unary.j0] at H
      by_cases c26 : x24_2 = true
      · subst c26
        have H1 : (some (0, false, 0, (⟨#[]⟩ : ByteArray), 1)) = some (r1, r2, r3, r4, r5) := by rw [if_pos rfl] at H; exact H
        clear H
        have H := H1
        clear H1
        simp only [Option.some.injEq, Prod.mk.injEq] at H
        obtain ⟨rfl, rfl, rfl, rfl, rfl⟩ := H
        have hnb27 := NB510_509.out
        have hnc27 := NB509_510.out
        have hcz28_0 : wc.cell? ⟨gb510, 0, none⟩ = some (.int .u8 0) := (blk_cell BK510.out 0).trans rfl
        have hcz28_1 : wc.cell? ⟨gb510, 1, none⟩ = some (.bool false) := (blk_cell BK510.out 1).trans rfl
        have hcz28_2 : wc.cell? ⟨gb510, 2, none⟩ = some (.int .i64 0) := (blk_cell BK510.out 2).trans rfl
        have hcz28_3 : wc.cell? ⟨gb510, 3, none⟩ = some (.string (⟨#[]⟩ : ByteArray)) := (blk_cell BK510.out 3).trans rfl
        have hfz28_0 := blk_frozen BK510.out 0
        have hfz28_1 := blk_frozen BK510.out 1
        have hfz28_2 := blk_frozen BK510.out 2
        have hfz28_3 := blk_frozen BK510.out 3
        go_wp2
        refine bodyPost_ret (results_ct rfl _ _ gb510 25 #[.int .u8 0, .bool false, .int .i64 0, .string (⟨#[]⟩ : ByteArray)] (0, 0) _ rfl (by (with_reducible repeat (first | refine blk_drewN ?_ _ | refine blk_drew ?_ | refine blk_alloc ?_ _)); refine blk_put (cs := #[.int .u8 0, .bool false, .int .i64 0, .string (⟨#[]⟩ : ByteArray)]) ?_ 3 _ rfl; (with_reducible repeat (first | refine blk_drewN ?_ _ | refine blk_drew ?_ | refine blk_alloc ?_ _)); refine blk_put (cs := #[.int .u8 0, .bool false, .int .i64 0, .string (⟨#[]⟩ : ByteArray)]) ?_ 2 _ rfl; (with_reducible repeat (first | refine blk_drewN ?_ _ | refine blk_drew ?_ | refine blk_alloc ?_ _)); refine blk_put (cs := #[.int .u8 0, .bool false, .int .i64 0, .string (⟨#[]⟩ : ByteArray)]) ?_ 1 _ rfl; (with_reducible repeat (first | refine blk_drewN ?_ _ | refine blk_drew ?_ | refine blk_alloc ?_ _)); refine blk_put (cs := #[.int .u8 0, .bool false, .int .i64 0, .string (⟨#[]⟩ : ByteArray)]) ?_ 0 _ rfl; (with_reducible repeat (first | refine blk_drewN ?_ _ | refine blk_drew ?_ | refine blk_alloc ?_ _)); exact BK510.out) Tryd.underlying25 rfl (by kernel_rfl)) rfl ?_
        exact ⟨by first | rfl | (simp [errW_none, errW_some] <;> rfl) | (simp [*, errW_none, errW_some] <;> rfl), by repeat (first | (with_reducible first | exact HB.out | apply below_alloc | apply pw_below_drewN | apply below_drew1 | refine below_set ?_ GE509.out | refine below_set ?_ GE510.out) | exact HB.out)⟩
      · replace c26 := Bool.eq_false_iff.mpr c26
        subst c26
        have H1 : (if a0 = 63 then (if a1_0 = 1 then ((consts_truth.f (!a1_1)).bind fun bt515 => (some (bt515.1, bt515.2.1, bt515.2.2.1, bt515.2.2.2, 0))) else (some (0, false, 0, (⟨#[]⟩ : ByteArray), 81))) else (if a1_0 = 2 then (if a0 = 33 then ((consts_within.f (wrap64 (-a1_2)) (a1_2 != (-9223372036854775808))).bind fun bt519 => (some (bt519.1, bt519.2.1, bt519.2.2.1, bt519.2.2.2.1, bt519.2.2.2.2))) else (if a0 = 39 then ((consts_number.f (Go.bits .xor .i64 (-1) a1_2)).bind fun bt524 => (some (bt524.1, bt524.2.1, bt524.2.2.1, bt524.2.2.2, 0))) else (some (a1_0, a1_1, a1_2, a1_3, 0)))) else (some (0, false, 0, (⟨#[]⟩ : ByteArray), 81)))) = some (r1, r2, r3, r4, r5) := by rw [if_neg (show ¬ (false = true) by decide)] at H; exact H
        clear H
        have H := H1
        clear H1
        by_cases c29 : a0 = 63
        · rw [if_pos c29] at H
          have c29b0 : (a0 == 63) = true := beq_iff_eq.mpr c29
          have c29b1 : (a0 != 63) = false := bne_eq_false_iff_eq.mpr c29
          clear c29
          by_cases c30 : a1_0 = 1
          · rw [if_pos c30] at H
            have c30b0 : (a1_0 == 1) = true := beq_iff_eq.mpr c30
            have c30b1 : (a1_0 != 1) = false := bne_eq_false_iff_eq.mpr c30
            clear c30
            replace H := Option.bind_eq_some_iff.mp H
            obtain ⟨⟨t515, t516, t517, t518⟩, A310, H⟩ := H
            replace H : (some (t515, t516, t517, t518, 0)) = some (r1, r2, r3, r4, r5) := H
            have A31 := Aside0.mk A310
            clear A310
            simp only [Option.some.injEq, Prod.mk.injEq] at H
            obtain ⟨rfl, rfl, rfl, rfl, rfl⟩ := H
            have hnb32 := NB509_510.out
            have hnc32 := NB510_509.out
            have hcz33_0 : wc.cell? ⟨gb509, 0, none⟩ = some (.int .u8 a1_0) := (blk_cell BK509.out 0).trans rfl
            have hcz33_1 : wc.cell? ⟨gb509, 1, none⟩ = some (.bool a1_1) := (blk_cell BK509.out 1).trans rfl
            have hcz33_2 : wc.cell? ⟨gb509, 2, none⟩ = some (.int .i64 a1_2) := (blk_cell BK509.out 2).trans rfl
            have hcz33_3 : wc.cell? ⟨gb509, 3, none⟩ = some (.string a1_3) := (blk_cell BK509.out 3).trans rfl
            have hfz33_0 := blk_frozen BK509.out 0
            have hfz33_1 := blk_frozen BK509.out 1
            have hfz33_2 := blk_frozen BK509.out 2
            have hfz33_3 := blk_frozen BK509.out 3
            go_wp2_with (first | ((with_reducible refine gate_callee (f := 29) rfl ?_); refine goesL_ (some 35) rfl rfl Tryd.func29 (by kernel_rfl) rfl #[.bool (!a1_1)] rfl (by (try simp only [List.map_toArray, List.map_cons, List.map_nil]); first | done | rfl | (simp only [List.length_drop, List.length_take]; rfl)) ?_; (with_reducible refine (consts_truth.calls (!a1_1) t515 t516 t517 t518 _ A31.out).mono ?_); rintro e w34 ⟨rfl, hb⟩; refine ⟨_, rfl, ?_⟩; have n0_ := Aside0.mk (blk_below (g := gb509) (o := .cells #[.int .u8 a1_0, .bool a1_1, .int .i64 a1_2, .string a1_3] 25 (0, 0)) (by (with_reducible repeat (first | refine blk_drewN ?_ _ | refine blk_drew ?_ | refine blk_alloc ?_ _)); exact BK509.out) hb); have n1_ := Aside0.mk (blk_below (g := gb510) (o := .cells #[.int .u8 0, .bool false, .int .i64 0, .string (⟨#[]⟩ : ByteArray)] 25 (0, 0)) (by (with_reducible repeat (first | refine blk_drewN ?_ _ | refine blk_drew ?_ | refine blk_alloc ?_ _)); exact BK510.out) hb); have n2_ := Aside0.mk (below_step (by repeat (first | (with_reducible first | exact HB.out | apply below_alloc | apply pw_below_drewN | apply below_drew1 | refine below_set ?_ GE509.out | refine below_set ?_ GE510.out) | exact HB.out)) hb); clear BK509; clear BK510; clear HB; have BK509 := n0_; have BK510 := n1_; have HB := n2_; clear n0_ n1_ n2_; (try clear hb); (try clear hb2); (try clear hk); (try clear hi); have hcz35_0 : w34.cell? ⟨gb510, 0, none⟩ = some (.int .u8 0) := (blk_cell BK510.out 0).trans rfl; have hcz35_1 : w34.cell? ⟨gb510, 1, none⟩ = some (.bool false) := (blk_cell BK510.out 1).trans rfl; have hcz35_2 : w34.cell? ⟨gb510, 2, none⟩ = some (.int .i64 0) := (blk_cell BK510.out 2).trans rfl; have hcz35_3 : w34.cell? ⟨gb510, 3, none⟩ = some (.string (⟨#[]⟩ : ByteArray)) := (blk_cell BK510.out 3).trans rfl; have hfz35_0 := blk_frozen BK510.out 0; have hfz35_1 := blk_frozen BK510.out 1; have hfz35_2 := blk_frozen BK510.out 2; have hfz35_3 := blk_frozen BK510.out 3))
            refine bodyPost_ret (results_ct rfl _ _ gb510 25 #[.int .u8 t515, .bool t516, .int .i64 t517, .string t518] (0, 0) _ rfl (by (with_reducible repeat (first | refine blk_drewN ?_ _ | refine blk_drew ?_ | refine blk_alloc ?_ _)); refine blk_put (cs := #[.int .u8 t515, .bool t516, .int .i64 t517, .string (⟨#[]⟩ : ByteArray)]) ?_ 3 _ rfl; (with_reducible repeat (first | refine blk_drewN ?_ _ | refine blk_drew ?_ | refine blk_alloc ?_ _)); refine blk_put (cs := #[.int .u8 t515, .bool t516, .int .i64 0, .string (⟨#[]⟩ : ByteArray)]) ?_ 2 _ rfl; (with_reducible repeat (first | refine blk_drewN ?_ _ | refine blk_drew ?_ | refine blk_alloc ?_ _)); refine blk_put (cs := #[.int .u8 t515, .bool false, .int .i64 0, .string (⟨#[]⟩ : ByteArray)]) ?_ 1 _ rfl; (with_reducible repeat (first | refine blk_drewN ?_ _ | refine blk_drew ?_ | refine blk_alloc ?_ _)); refine blk_put (cs := #[.int .u8 0, .bool false, .int .i64 0, .string (⟨#[]⟩ : ByteArray)]) ?_ 0 _ rfl; (with_reducible repeat (first | refine blk_drewN ?_ _ | refine blk_drew ?_ | refine blk_alloc ?_ _)); exact BK510.out) Tryd.underlying25 rfl (by kernel_rfl)) rfl ?_
            exact ⟨by first | rfl | (simp [errW_none, errW_some] <;> rfl) | (simp [*, errW_none, errW_some] <;> rfl), by repeat (first | (with_reducible first | exact HB.out | apply below_alloc | apply pw_below_drewN | apply below_drew1 | refine below_set ?_ GE509.out | refine below_set ?_ GE510.out) | exact HB.out)⟩
          · rw [if_neg c30] at H
            have c30b0 : (a1_0 == 1) = false := beq_eq_false_iff_ne.mpr c30
            have c30b1 : (a1_0 != 1) = true := bne_iff_ne.mpr c30
            simp only [Option.some.injEq, Prod.mk.injEq] at H
            obtain ⟨rfl, rfl, rfl, rfl, rfl⟩ := H
            have hnb36 := NB509_510.out
            have hnc36 := NB510_509.out
            have hcz37_0 : wc.cell? ⟨gb509, 0, none⟩ = some (.int .u8 a1_0) := (blk_cell BK509.out 0).trans rfl
            have hcz37_1 : wc.cell? ⟨gb509, 1, none⟩ = some (.bool a1_1) := (blk_cell BK509.out 1).trans rfl
            have hcz37_2 : wc.cell? ⟨gb509, 2, none⟩ = some (.int .i64 a1_2) := (blk_cell BK509.out 2).trans rfl
            have hcz37_3 : wc.cell? ⟨gb509, 3, none⟩ = some (.string a1_3) := (blk_cell BK509.out 3).trans rfl
            have hfz37_0 := blk_frozen BK509.out 0
            have hfz37_1 := blk_frozen BK509.out 1
            have hfz37_2 := blk_frozen BK509.out 2
            have hfz37_3 := blk_frozen BK509.out 3
            have hcz38_0 : wc.cell? ⟨gb510, 0, none⟩ = some (.int .u8 0) := (blk_cell BK510.out 0).trans rfl
            have hcz38_1 : wc.cell? ⟨gb510, 1, none⟩ = some (.bool false) := (blk_cell BK510.out 1).trans rfl
            have hcz38_2 : wc.cell? ⟨gb510, 2, none⟩ = some (.int .i64 0) := (blk_cell BK510.out 2).trans rfl
            have hcz38_3 : wc.cell? ⟨gb510, 3, none⟩ = some (.string (⟨#[]⟩ : ByteArray)) := (blk_cell BK510.out 3).trans rfl
            have hfz38_0 := blk_frozen BK510.out 0
            have hfz38_1 := blk_frozen BK510.out 1
            have hfz38_2 := blk_frozen BK510.out 2
            have hfz38_3 := blk_frozen BK510.out 3
            go_wp2
            refine bodyPost_ret (results_ct rfl _ _ gb510 25 #[.int .u8 0, .bool false, .int .i64 0, .string (⟨#[]⟩ : ByteArray)] (0, 0) _ rfl (by (with_reducible repeat (first | refine blk_drewN ?_ _ | refine blk_drew ?_ | refine blk_alloc ?_ _)); refine blk_put (cs := #[.int .u8 0, .bool false, .int .i64 0, .string (⟨#[]⟩ : ByteArray)]) ?_ 3 _ rfl; (with_reducible repeat (first | refine blk_drewN ?_ _ | refine blk_drew ?_ | refine blk_alloc ?_ _)); refine blk_put (cs := #[.int .u8 0, .bool false, .int .i64 0, .string (⟨#[]⟩ : ByteArray)]) ?_ 2 _ rfl; (with_reducible repeat (first | refine blk_drewN ?_ _ | refine blk_drew ?_ | refine blk_alloc ?_ _)); refine blk_put (cs := #[.int .u8 0, .bool false, .int .i64 0, .string (⟨#[]⟩ : ByteArray)]) ?_ 1 _ rfl; (with_reducible repeat (first | refine blk_drewN ?_ _ | refine blk_drew ?_ | refine blk_alloc ?_ _)); refine blk_put (cs := #[.int .u8 0, .bool false, .int .i64 0, .string (⟨#[]⟩ : ByteArray)]) ?_ 0 _ rfl; (with_reducible repeat (first | refine blk_drewN ?_ _ | refine blk_drew ?_ | refine blk_alloc ?_ _)); exact BK510.out) Tryd.underlying25 rfl (by kernel_rfl)) rfl ?_
            exact ⟨by first | rfl | (simp [errW_none, errW_some] <;> rfl) | (simp [*, errW_none, errW_some] <;> rfl), by repeat (first | (with_reducible first | exact HB.out | apply below_alloc | apply pw_below_drewN | apply below_drew1 | refine below_set ?_ GE509.out | refine below_set ?_ GE510.out) | exact HB.out)⟩
        · rw [if_neg c29] at H
          have c29b0 : (a0 == 63) = false := beq_eq_false_iff_ne.mpr c29
          have c29b1 : (a0 != 63) = true := bne_iff_ne.mpr c29
          by_cases c39 : a1_0 = 2
          · rw [if_pos c39] at H
            have c39b0 : (a1_0 == 2) = true := beq_iff_eq.mpr c39
            have c39b1 : (a1_0 != 2) = false := bne_eq_false_iff_eq.mpr c39
            clear c39
            by_cases c40 : a0 = 33
            · rw [if_pos c40] at H
              have c40b0 : (a0 == 33) = true := beq_iff_eq.mpr c40
              have c40b1 : (a0 != 33) = false := bne_eq_false_iff_eq.mpr c40
              clear c40
              replace H := Option.bind_eq_some_iff.mp H
              obtain ⟨⟨t519, t520, t521, t522, t523⟩, A410, H⟩ := H
              replace H : (some (t519, t520, t521, t522, t523)) = some (r1, r2, r3, r4, r5) := H
              have A41 := Aside0.mk A410
              clear A410
              simp only [Option.some.injEq, Prod.mk.injEq] at H
              obtain ⟨rfl, rfl, rfl, rfl, rfl⟩ := H
              have hnb42 := NB509_510.out
              have hnc42 := NB510_509.out
              have hcz43_0 : wc.cell? ⟨gb509, 0, none⟩ = some (.int .u8 a1_0) := (blk_cell BK509.out 0).trans rfl
              have hcz43_1 : wc.cell? ⟨gb509, 1, none⟩ = some (.bool a1_1) := (blk_cell BK509.out 1).trans rfl
              have hcz43_2 : wc.cell? ⟨gb509, 2, none⟩ = some (.int .i64 a1_2) := (blk_cell BK509.out 2).trans rfl
              have hcz43_3 : wc.cell? ⟨gb509, 3, none⟩ = some (.string a1_3) := (blk_cell BK509.out 3).trans rfl
              have hfz43_0 := blk_frozen BK509.out 0
              have hfz43_1 := blk_frozen BK509.out 1
              have hfz43_2 := blk_frozen BK509.out 2
              have hfz43_3 := blk_frozen BK509.out 3
              go_wp2_with (first | ((with_reducible refine gate_callee (f := 30) rfl ?_); refine goesL_ (some 49) rfl rfl Tryd.func30 (by kernel_rfl) rfl #[.int .i64 (wrap64 (-a1_2)), .bool (a1_2 != (-9223372036854775808))] rfl (by (try simp only [List.map_toArray, List.map_cons, List.map_nil]); first | done | rfl | (simp only [List.length_drop, List.length_take]; rfl)) ?_; (with_reducible refine (consts_within.calls (wrap64 (-a1_2)) (a1_2 != (-9223372036854775808)) t519 t520 t521 t522 t523 _ A41.out).mono ?_); rintro e w44 ⟨rfl, hb⟩; refine ⟨_, rfl, ?_⟩; have n0_ := Aside0.mk (blk_below (g := gb509) (o := .cells #[.int .u8 a1_0, .bool a1_1, .int .i64 a1_2, .string a1_3] 25 (0, 0)) (by (with_reducible repeat (first | refine blk_drewN ?_ _ | refine blk_drew ?_ | refine blk_alloc ?_ _)); exact BK509.out) hb); have n1_ := Aside0.mk (blk_below (g := gb510) (o := .cells #[.int .u8 0, .bool false, .int .i64 0, .string (⟨#[]⟩ : ByteArray)] 25 (0, 0)) (by (with_reducible repeat (first | refine blk_drewN ?_ _ | refine blk_drew ?_ | refine blk_alloc ?_ _)); exact BK510.out) hb); have n2_ := Aside0.mk (below_step (by repeat (first | (with_reducible first | exact HB.out | apply below_alloc | apply pw_below_drewN | apply below_drew1 | refine below_set ?_ GE509.out | refine below_set ?_ GE510.out) | exact HB.out)) hb); clear BK509; clear BK510; clear HB; have BK509 := n0_; have BK510 := n1_; have HB := n2_; clear n0_ n1_ n2_; (try clear hb); (try clear hb2); (try clear hk); (try clear hi); have hcz45_0 : w44.cell? ⟨gb510, 0, none⟩ = some (.int .u8 0) := (blk_cell BK510.out 0).trans rfl; have hcz45_1 : w44.cell? ⟨gb510, 1, none⟩ = some (.bool false) := (blk_cell BK510.out 1).trans rfl; have hcz45_2 : w44.cell? ⟨gb510, 2, none⟩ = some (.int .i64 0) := (blk_cell BK510.out 2).trans rfl; have hcz45_3 : w44.cell? ⟨gb510, 3, none⟩ = some (.string (⟨#[]⟩ : ByteArray)) := (blk_cell BK510.out 3).trans rfl; have hfz45_0 := blk_frozen BK510.out 0; have hfz45_1 := blk_frozen BK510.out 1; have hfz45_2 := blk_frozen BK510.out 2; have hfz45_3 := blk_frozen BK510.out 3))
              refine bodyPost_ret (results_ct rfl _ _ gb510 25 #[.int .u8 t519, .bool t520, .int .i64 t521, .string t522] (0, 0) _ rfl (by (with_reducible repeat (first | refine blk_drewN ?_ _ | refine blk_drew ?_ | refine blk_alloc ?_ _)); refine blk_put (cs := #[.int .u8 t519, .bool t520, .int .i64 t521, .string (⟨#[]⟩ : ByteArray)]) ?_ 3 _ rfl; (with_reducible repeat (first | refine blk_drewN ?_ _ | refine blk_drew ?_ | refine blk_alloc ?_ _)); refine blk_put (cs := #[.int .u8 t519, .bool t520, .int .i64 0, .string (⟨#[]⟩ : ByteArray)]) ?_ 2 _ rfl; (with_reducible repeat (first | refine blk_drewN ?_ _ | refine blk_drew ?_ | refine blk_alloc ?_ _)); refine blk_put (cs := #[.int .u8 t519, .bool false, .int .i64 0, .string (⟨#[]⟩ : ByteArray)]) ?_ 1 _ rfl; (with_reducible repeat (first | refine blk_drewN ?_ _ | refine blk_drew ?_ | refine blk_alloc ?_ _)); refine blk_put (cs := #[.int .u8 0, .bool false, .int .i64 0, .string (⟨#[]⟩ : ByteArray)]) ?_ 0 _ rfl; (with_reducible repeat (first | refine blk_drewN ?_ _ | refine blk_drew ?_ | refine blk_alloc ?_ _)); exact BK510.out) Tryd.underlying25 rfl (by kernel_rfl)) rfl ?_
              exact ⟨by first | rfl | (simp [errW_none, errW_some] <;> rfl) | (simp [*, errW_none, errW_some] <;> rfl), by repeat (first | (with_reducible first | exact HB.out | apply below_alloc | apply pw_below_drewN | apply below_drew1 | refine below_set ?_ GE509.out | refine below_set ?_ GE510.out) | exact HB.out)⟩
            · rw [if_neg c40] at H
              have c40b0 : (a0 == 33) = false := beq_eq_false_iff_ne.mpr c40
              have c40b1 : (a0 != 33) = true := bne_iff_ne.mpr c40
              by_cases c46 : a0 = 39
              · rw [if_pos c46] at H
                have c46b0 : (a0 == 39) = true := beq_iff_eq.mpr c46
                have c46b1 : (a0 != 39) = false := bne_eq_false_iff_eq.mpr c46
                clear c46
                replace H := Option.bind_eq_some_iff.mp H
                obtain ⟨⟨t524, t525, t526, t527⟩, A470, H⟩ := H
                replace H : (some (t524, t525, t526, t527, 0)) = some (r1, r2, r3, r4, r5) := H
                have A47 := Aside0.mk A470
                clear A470
                simp only [Option.some.injEq, Prod.mk.injEq] at H
                obtain ⟨rfl, rfl, rfl, rfl, rfl⟩ := H
                have hnb48 := NB509_510.out
                have hnc48 := NB510_509.out
                have hcz49_0 : wc.cell? ⟨gb509, 0, none⟩ = some (.int .u8 a1_0) := (blk_cell BK509.out 0).trans rfl
                have hcz49_1 : wc.cell? ⟨gb509, 1, none⟩ = some (.bool a1_1) := (blk_cell BK509.out 1).trans rfl
                have hcz49_2 : wc.cell? ⟨gb509, 2, none⟩ = some (.int .i64 a1_2) := (blk_cell BK509.out 2).trans rfl
                have hcz49_3 : wc.cell? ⟨gb509, 3, none⟩ = some (.string a1_3) := (blk_cell BK509.out 3).trans rfl
                have hfz49_0 := blk_frozen BK509.out 0
                have hfz49_1 := blk_frozen BK509.out 1
                have hfz49_2 := blk_frozen BK509.out 2
                have hfz49_3 := blk_frozen BK509.out 3
                go_wp2_with (first | ((with_reducible refine gate_callee (f := 31) rfl ?_); refine goesL_ (some 57) rfl rfl Tryd.func31 (by kernel_rfl) rfl #[.int .i64 (Go.bits .xor .i64 (-1) a1_2)] rfl (by (try simp only [List.map_toArray, List.map_cons, List.map_nil]); first | done | rfl | (simp only [List.length_drop, List.length_take]; rfl)) ?_; (with_reducible refine (consts_number.calls (Go.bits .xor .i64 (-1) a1_2) t524 t525 t526 t527 _ A47.out).mono ?_); rintro e w50 ⟨rfl, hb⟩; refine ⟨_, rfl, ?_⟩; have n0_ := Aside0.mk (blk_below (g := gb509) (o := .cells #[.int .u8 a1_0, .bool a1_1, .int .i64 a1_2, .string a1_3] 25 (0, 0)) (by (with_reducible repeat (first | refine blk_drewN ?_ _ | refine blk_drew ?_ | refine blk_alloc ?_ _)); exact BK509.out) hb); have n1_ := Aside0.mk (blk_below (g := gb510) (o := .cells #[.int .u8 0, .bool false, .int .i64 0, .string (⟨#[]⟩ : ByteArray)] 25 (0, 0)) (by (with_reducible repeat (first | refine blk_drewN ?_ _ | refine blk_drew ?_ | refine blk_alloc ?_ _)); exact BK510.out) hb); have n2_ := Aside0.mk (below_step (by repeat (first | (with_reducible first | exact HB.out | apply below_alloc | apply pw_below_drewN | apply below_drew1 | refine below_set ?_ GE509.out | refine below_set ?_ GE510.out) | exact HB.out)) hb); clear BK509; clear BK510; clear HB; have BK509 := n0_; have BK510 := n1_; have HB := n2_; clear n0_ n1_ n2_; (try clear hb); (try clear hb2); (try clear hk); (try clear hi); have hcz51_0 : w50.cell? ⟨gb510, 0, none⟩ = some (.int .u8 0) := (blk_cell BK510.out 0).trans rfl; have hcz51_1 : w50.cell? ⟨gb510, 1, none⟩ = some (.bool false) := (blk_cell BK510.out 1).trans rfl; have hcz51_2 : w50.cell? ⟨gb510, 2, none⟩ = some (.int .i64 0) := (blk_cell BK510.out 2).trans rfl; have hcz51_3 : w50.cell? ⟨gb510, 3, none⟩ = some (.string (⟨#[]⟩ : ByteArray)) := (blk_cell BK510.out 3).trans rfl; have hfz51_0 := blk_frozen BK510.out 0; have hfz51_1 := blk_frozen BK510.out 1; have hfz51_2 := blk_frozen BK510.out 2; have hfz51_3 := blk_frozen BK510.out 3))
                refine bodyPost_ret (results_ct rfl _ _ gb510 25 #[.int .u8 t524, .bool t525, .int .i64 t526, .string t527] (0, 0) _ rfl (by (with_reducible repeat (first | refine blk_drewN ?_ _ | refine blk_drew ?_ | refine blk_alloc ?_ _)); refine blk_put (cs := #[.int .u8 t524, .bool t525, .int .i64 t526, .string (⟨#[]⟩ : ByteArray)]) ?_ 3 _ rfl; (with_reducible repeat (first | refine blk_drewN ?_ _ | refine blk_drew ?_ | refine blk_alloc ?_ _)); refine blk_put (cs := #[.int .u8 t524, .bool t525, .int .i64 0, .string (⟨#[]⟩ : ByteArray)]) ?_ 2 _ rfl; (with_reducible repeat (first | refine blk_drewN ?_ _ | refine blk_drew ?_ | refine blk_alloc ?_ _)); refine blk_put (cs := #[.int .u8 t524, .bool false, .int .i64 0, .string (⟨#[]⟩ : ByteArray)]) ?_ 1 _ rfl; (with_reducible repeat (first | refine blk_drewN ?_ _ | refine blk_drew ?_ | refine blk_alloc ?_ _)); refine blk_put (cs := #[.int .u8 0, .bool false, .int .i64 0, .string (⟨#[]⟩ : ByteArray)]) ?_ 0 _ rfl; (with_reducible repeat (first | refine blk_drewN ?_ _ | refine blk_drew ?_ | refine blk_alloc ?_ _)); exact BK510.out) Tryd.underlying25 rfl (by kernel_rfl)) rfl ?_
                exact ⟨by first | rfl | (simp [errW_none, errW_some] <;> rfl) | (simp [*, errW_none, errW_some] <;> rfl), by repeat (first | (with_reducible first | exact HB.out | apply below_alloc | apply pw_below_drewN | apply below_drew1 | refine below_set ?_ GE509.out | refine below_set ?_ GE510.out) | exact HB.out)⟩
              · rw [if_neg c46] at H
                have c46b0 : (a0 == 39) = false := beq_eq_false_iff_ne.mpr c46
                have c46b1 : (a0 != 39) = true := bne_iff_ne.mpr c46
                simp only [Option.some.injEq, Prod.mk.injEq] at H
                obtain ⟨rfl, rfl, rfl, rfl, rfl⟩ := H
                have hnb52 := NB509_510.out
                have hnc52 := NB510_509.out
                have hcz53_0 : wc.cell? ⟨gb509, 0, none⟩ = some (.int .u8 a1_0) := (blk_cell BK509.out 0).trans rfl
                have hcz53_1 : wc.cell? ⟨gb509, 1, none⟩ = some (.bool a1_1) := (blk_cell BK509.out 1).trans rfl
                have hcz53_2 : wc.cell? ⟨gb509, 2, none⟩ = some (.int .i64 a1_2) := (blk_cell BK509.out 2).trans rfl
                have hcz53_3 : wc.cell? ⟨gb509, 3, none⟩ = some (.string a1_3) := (blk_cell BK509.out 3).trans rfl
                have hfz53_0 := blk_frozen BK509.out 0
                have hfz53_1 := blk_frozen BK509.out 1
                have hfz53_2 := blk_frozen BK509.out 2
                have hfz53_3 := blk_frozen BK509.out 3
                have hcz54_0 : wc.cell? ⟨gb510, 0, none⟩ = some (.int .u8 0) := (blk_cell BK510.out 0).trans rfl
                have hcz54_1 : wc.cell? ⟨gb510, 1, none⟩ = some (.bool false) := (blk_cell BK510.out 1).trans rfl
                have hcz54_2 : wc.cell? ⟨gb510, 2, none⟩ = some (.int .i64 0) := (blk_cell BK510.out 2).trans rfl
                have hcz54_3 : wc.cell? ⟨gb510, 3, none⟩ = some (.string (⟨#[]⟩ : ByteArray)) := (blk_cell BK510.out 3).trans rfl
                have hfz54_0 := blk_frozen BK510.out 0
                have hfz54_1 := blk_frozen BK510.out 1
                have hfz54_2 := blk_frozen BK510.out 2
                have hfz54_3 := blk_frozen BK510.out 3
                go_wp2
                refine bodyPost_ret (results_ct rfl _ _ gb510 25 #[.int .u8 a1_0, .bool a1_1, .int .i64 a1_2, .string a1_3] (0, 0) _ rfl (by (with_reducible repeat (first | refine blk_drewN ?_ _ | refine blk_drew ?_ | refine blk_alloc ?_ _)); refine blk_put (cs := #[.int .u8 a1_0, .bool a1_1, .int .i64 a1_2, .string (⟨#[]⟩ : ByteArray)]) ?_ 3 _ rfl; (with_reducible repeat (first | refine blk_drewN ?_ _ | refine blk_drew ?_ | refine blk_alloc ?_ _)); refine blk_put (cs := #[.int .u8 a1_0, .bool a1_1, .int .i64 0, .string (⟨#[]⟩ : ByteArray)]) ?_ 2 _ rfl; (with_reducible repeat (first | refine blk_drewN ?_ _ | refine blk_drew ?_ | refine blk_alloc ?_ _)); refine blk_put (cs := #[.int .u8 a1_0, .bool false, .int .i64 0, .string (⟨#[]⟩ : ByteArray)]) ?_ 1 _ rfl; (with_reducible repeat (first | refine blk_drewN ?_ _ | refine blk_drew ?_ | refine blk_alloc ?_ _)); refine blk_put (cs := #[.int .u8 0, .bool false, .int .i64 0, .string (⟨#[]⟩ : ByteArray)]) ?_ 0 _ rfl; (with_reducible repeat (first | refine blk_drewN ?_ _ | refine blk_drew ?_ | refine blk_alloc ?_ _)); exact BK510.out) Tryd.underlying25 rfl (by kernel_rfl)) rfl ?_
                exact ⟨by first | rfl | (simp [errW_none, errW_some] <;> rfl) | (simp [*, errW_none, errW_some] <;> rfl), by repeat (first | (with_reducible first | exact HB.out | apply below_alloc | apply pw_below_drewN | apply below_drew1 | refine below_set ?_ GE509.out | refine below_set ?_ GE510.out) | exact HB.out)⟩
          · rw [if_neg c39] at H
            have c39b0 : (a1_0 == 2) = false := beq_eq_false_iff_ne.mpr c39
            have c39b1 : (a1_0 != 2) = true := bne_iff_ne.mpr c39
            simp only [Option.some.injEq, Prod.mk.injEq] at H
            obtain ⟨rfl, rfl, rfl, rfl, rfl⟩ := H
            have hnb55 := NB509_510.out
            have hnc55 := NB510_509.out
            have hcz56_0 : wc.cell? ⟨gb509, 0, none⟩ = some (.int .u8 a1_0) := (blk_cell BK509.out 0).trans rfl
            have hcz56_1 : wc.cell? ⟨gb509, 1, none⟩ = some (.bool a1_1) := (blk_cell BK509.out 1).trans rfl
            have hcz56_2 : wc.cell? ⟨gb509, 2, none⟩ = some (.int .i64 a1_2) := (blk_cell BK509.out 2).trans rfl
            have hcz56_3 : wc.cell? ⟨gb509, 3, none⟩ = some (.string a1_3) := (blk_cell BK509.out 3).trans rfl
            have hfz56_0 := blk_frozen BK509.out 0
            have hfz56_1 := blk_frozen BK509.out 1
            have hfz56_2 := blk_frozen BK509.out 2
            have hfz56_3 := blk_frozen BK509.out 3
            have hcz57_0 : wc.cell? ⟨gb510, 0, none⟩ = some (.int .u8 0) := (blk_cell BK510.out 0).trans rfl
            have hcz57_1 : wc.cell? ⟨gb510, 1, none⟩ = some (.bool false) := (blk_cell BK510.out 1).trans rfl
            have hcz57_2 : wc.cell? ⟨gb510, 2, none⟩ = some (.int .i64 0) := (blk_cell BK510.out 2).trans rfl
            have hcz57_3 : wc.cell? ⟨gb510, 3, none⟩ = some (.string (⟨#[]⟩ : ByteArray)) := (blk_cell BK510.out 3).trans rfl
            have hfz57_0 := blk_frozen BK510.out 0
            have hfz57_1 := blk_frozen BK510.out 1
            have hfz57_2 := blk_frozen BK510.out 2
            have hfz57_3 := blk_frozen BK510.out 3
            go_wp2
            refine bodyPost_ret (results_ct rfl _ _ gb510 25 #[.int .u8 0, .bool false, .int .i64 0, .string (⟨#[]⟩ : ByteArray)] (0, 0) _ rfl (by (with_reducible repeat (first | refine blk_drewN ?_ _ | refine blk_drew ?_ | refine blk_alloc ?_ _)); refine blk_put (cs := #[.int .u8 0, .bool false, .int .i64 0, .string (⟨#[]⟩ : ByteArray)]) ?_ 3 _ rfl; (with_reducible repeat (first | refine blk_drewN ?_ _ | refine blk_drew ?_ | refine blk_alloc ?_ _)); refine blk_put (cs := #[.int .u8 0, .bool false, .int .i64 0, .string (⟨#[]⟩ : ByteArray)]) ?_ 2 _ rfl; (with_reducible repeat (first | refine blk_drewN ?_ _ | refine blk_drew ?_ | refine blk_alloc ?_ _)); refine blk_put (cs := #[.int .u8 0, .bool false, .int .i64 0, .string (⟨#[]⟩ : ByteArray)]) ?_ 1 _ rfl; (with_reducible repeat (first | refine blk_drewN ?_ _ | refine blk_drew ?_ | refine blk_alloc ?_ _)); refine blk_put (cs := #[.int .u8 0, .bool false, .int .i64 0, .string (⟨#[]⟩ : ByteArray)]) ?_ 0 _ rfl; (with_reducible repeat (first | refine blk_drewN ?_ _ | refine blk_drew ?_ | refine blk_alloc ?_ _)); exact BK510.out) Tryd.underlying25 rfl (by kernel_rfl)) rfl ?_
            exact ⟨by first | rfl | (simp [errW_none, errW_some] <;> rfl) | (simp [*, errW_none, errW_some] <;> rfl), by repeat (first | (with_reducible first | exact HB.out | apply below_alloc | apply pw_below_drewN | apply below_drew1 | refine below_set ?_ GE509.out | refine below_set ?_ GE510.out) | exact HB.out)⟩

end Go.Proofs.YteklmgmhkmdddaaDoor.S

-- Unary at '-' and '^', plainly
namespace Go.Proofs.YteklmgmhkmdddaaDoor.Q
open Go.RowKit Go.Proofs.YteklmgmhkmdddaaDoor.S Go.Proofs.YteklmgmhkmdddaaDoorW.PrintWords Go.Proofs.YteklmgmhkmdddaaDoorW.PrintLast Go.Proofs.YteklmgmhkmdddaaDoorW.PrintMore
set_option linter.unusedSimpArgs false
set_option linter.unusedVariables false
theorem not_i64 (n : Int) : Go.bits .xor .i64 (-1) n = wrap64 (-1 - n) := by
  show IntKind.i64.wrap ((BitVec.ofInt 64 (-1) ^^^ BitVec.ofInt 64 n).toNat : Int) = _
  have h1 : BitVec.ofInt 64 (-1) = BitVec.allOnes 64 := by decide
  rw [h1, BitVec.allOnes_xor, BitVec.toNat_not, BitVec.toNat_ofInt]
  simp [IntKind.wrap, IntKind.bits, IntKind.signed]
  unfold wrap64
  omega
theorem un_j (op a : Int) (h63 : op ≠ 63) : consts_Unary.j0 1 op false 2 false a ⟨#[]⟩ = (if op = 33 then ((consts_within.f (wrap64 (-a)) (a != (-9223372036854775808))).bind fun v => (some (v.1, v.2.1, v.2.2.1, v.2.2.2.1, v.2.2.2.2))) else (if op = 39 then ((consts_number.f (Go.bits .xor .i64 (-1) a)).bind fun v => (some (v.1, v.2.1, v.2.2.1, v.2.2.2, 0))) else some (2, false, a, ⟨#[]⟩, 0))) := by
  simp only [consts_Unary.j0]
  rw [if_neg (by simp), if_neg h63, if_pos trivial]
theorem un_neg (a : Int) (ha : In64 a) (h : a ≠ -9223372036854775808) : consts_Unary.f 1 33 2 false a ⟨#[]⟩ = some (okN (-a)) := by
  unfold consts_Unary.f
  rw [if_neg (by decide), if_pos rfl, right_is, rightN']
  show consts_Unary.j0 1 33 false 2 false a ⟨#[]⟩ = _
  rw [un_j 33 a (by decide), if_pos rfl, show (a != -9223372036854775808) = true by rw [bne_iff_ne]; exact h, w64 (show In64 (-a) by unfold In64 at *; omega)]
  rfl
theorem un_neg_er : consts_Unary.f 1 33 2 false (-9223372036854775808) ⟨#[]⟩ = some (erV 80) := by
  unfold consts_Unary.f
  rw [if_neg (by decide), if_pos rfl, right_is, rightN']
  show consts_Unary.j0 1 33 false 2 false (-9223372036854775808) ⟨#[]⟩ = _
  rw [un_j 33 _ (by decide), if_pos rfl]
  rfl
theorem un_xor (a : Int) : consts_Unary.f 1 39 2 false a ⟨#[]⟩ = some (okN (wrap64 (-1 - a))) := by
  unfold consts_Unary.f
  rw [if_neg (by decide), if_neg (by decide), if_pos rfl, right_is, rightN']
  show consts_Unary.j0 1 39 false 2 false a ⟨#[]⟩ = _
  rw [un_j 39 a (by decide), if_neg (by decide), if_pos rfl, not_i64]
  rfl
theorem in_wrap (x : Int) : In64 (wrap64 x) := by unfold In64 wrap64; omega
theorem in_neg {a : Int} (ha : In64 a) (h : a ≠ -9223372036854775808) : In64 (-a) := by unfold In64 at *; omega
theorem neg_ne {a : Int} (ha : In64 a) : -a ≠ -9223372036854775808 := by unfold In64 at *; omega
theorem neg_neg' (a : Int) : - -a = a := by omega
end Go.Proofs.YteklmgmhkmdddaaDoor.Q

-- A text of this session's own program (wip/myprint.sh over a changed print tool): functions and their walks
namespace Go.Proofs.YteklmgmhkmdddaaDoor.S
open Go.RowKit Go.Proofs.YteklmgmhkmdddaaDoorW.PrintWords Go.Proofs.YteklmgmhkmdddaaDoorW.PrintLast Go.Proofs.YteklmgmhkmdddaaDoorW.PrintMore
attribute [local go_sem] max2_int min2_int max_two min_two max_three min_three max_four min_four   -- for this text's walks alone
set_option linter.unusedVariables false
set_option linter.unusedSimpArgs false

/-! ### monikerlaw8_num: function 10 -/
def monikerlaw8_num.f (a0 : Int) : Option (Int × Bool × Int × ByteArray) := some (2, false, a0, (⟨#[]⟩ : ByteArray))
set_option maxHeartbeats 8000000 in
set_option maxRecDepth 100000 in
theorem monikerlaw8_num.calls (a0 : Int) (r1 : Int) (r2 : Bool) (r3 : Int) (r4 : ByteArray) (w : World) (h : monikerlaw8_num.f a0 = some (r1, r2, r3, r4)) :
    Calls Tryd.prog 10 #[.int .i64 a0] w fun e w' => e = .returned (.agg #[.int .u8 r1, .bool r2, .int .i64 r3, .string r4]) ∧ Below w.heap.size w w' := by
  have hu25 := Tryd.underlying25
  have HB := Aside0.mk (Below.refl w.heap.size w)
  have H : (some (2, false, a0, (⟨#[]⟩ : ByteArray))) = some (r1, r2, r3, r4) := h
  clear h
  simp only [Option.some.injEq, Prod.mk.injEq] at H
  obtain ⟨rfl, rfl, rfl, rfl⟩ := H
  go_enter Tryd.func10, Tryd.ntmps10
  go_wp2_with (first | ((with_reducible refine gate_dst (N := 2) rfl ?_); refine box_event ?hg (N := 2) ?hd (cs := #[.int .u8 0, .bool false, .int .i64 0, .string (⟨#[]⟩ : ByteArray)]) (t := 25) ?hr ?_; (case hd => rfl); (case hg => rfl); (case hr => first | (go_simp; done) | (go_simp; rfl)); intro gb183 hg w2 hbox hb; have n0_ := Aside0.mk (below_step (by repeat (first | (with_reducible first | exact HB.out | apply below_alloc | apply pw_below_drewN | apply below_drew1) | exact HB.out)) hb); have n1_ := Aside0.mk (hbox); have n2_ := Aside0.mk ((by rw [hg]; exact (below_size (by repeat (first | (with_reducible first | exact HB.out | apply below_alloc | apply pw_below_drewN | apply below_drew1) | exact HB.out))) : w.heap.size ≤ gb183)); have n3_ := Aside0.mk ((by rw [hg]; exact (below_size (by repeat (first | (with_reducible first | exact HB.out | apply below_alloc | apply pw_below_drewN | apply below_drew1) | exact HB.out))) : w.heap.size ≤ gb183)); clear HB; have HB := n0_; have BK183 := n1_; have GW183 := n2_; have GE183 := n3_; clear n0_ n1_ n2_ n3_; clear hb hbox hg; have hcz3_0 : w2.cell? ⟨gb183, 0, none⟩ = some (.int .u8 0) := (blk_cell BK183.out 0).trans rfl; have hcz3_1 : w2.cell? ⟨gb183, 1, none⟩ = some (.bool false) := (blk_cell BK183.out 1).trans rfl; have hcz3_2 : w2.cell? ⟨gb183, 2, none⟩ = some (.int .i64 0) := (blk_cell BK183.out 2).trans rfl; have hcz3_3 : w2.cell? ⟨gb183, 3, none⟩ = some (.string (⟨#[]⟩ : ByteArray)) := (blk_cell BK183.out 3).trans rfl; have hfz3_0 := blk_frozen BK183.out 0; have hfz3_1 := blk_frozen BK183.out 1; have hfz3_2 := blk_frozen BK183.out 2; have hfz3_3 := blk_frozen BK183.out 3))
  refine bodyPost_ret (results_cell_row rfl _ _ gb183 25 #[.int .u8 2, .bool false, .int .i64 a0, .string (⟨#[]⟩ : ByteArray)] (0, 0) _ rfl (by (with_reducible repeat (first | refine blk_drewN ?_ _ | refine blk_drew ?_ | refine blk_alloc ?_ _)); refine blk_put (cs := #[.int .u8 2, .bool false, .int .i64 a0, .string (⟨#[]⟩ : ByteArray)]) ?_ 3 _ rfl; (with_reducible repeat (first | refine blk_drewN ?_ _ | refine blk_drew ?_ | refine blk_alloc ?_ _)); refine blk_put (cs := #[.int .u8 2, .bool false, .int .i64 0, .string (⟨#[]⟩ : ByteArray)]) ?_ 2 _ rfl; (with_reducible repeat (first | refine blk_drewN ?_ _ | refine blk_drew ?_ | refine blk_alloc ?_ _)); refine blk_put (cs := #[.int .u8 2, .bool false, .int .i64 0, .string (⟨#[]⟩ : ByteArray)]) ?_ 1 _ rfl; (with_reducible repeat (first | refine blk_drewN ?_ _ | refine blk_drew ?_ | refine blk_alloc ?_ _)); refine blk_put (cs := #[.int .u8 0, .bool false, .int .i64 0, .string (⟨#[]⟩ : ByteArray)]) ?_ 0 _ rfl; (with_reducible repeat (first | refine blk_drewN ?_ _ | refine blk_drew ?_ | refine blk_alloc ?_ _)); exact BK183.out) Tryd.underlying25 rfl (by kernel_rfl)) rfl ?_
  exact ⟨by first | rfl | (simp [errW_none, errW_some] <;> rfl) | (simp [*, errW_none, errW_some] <;> rfl), by repeat (first | (with_reducible first | exact HB.out | apply below_alloc | apply pw_below_drewN | apply below_drew1 | refine below_set ?_ GE183.out) | exact HB.out)⟩

end Go.Proofs.YteklmgmhkmdddaaDoor.S

-- made by wip/mkarith.py: the law ConstArith, walked by hand
namespace Go.Proofs.YteklmgmhkmdddaaDoor.L
open Go.RowKit Go.Proofs.YteklmgmhkmdddaaDoor.S Go.Proofs.YteklmgmhkmdddaaDoorW.PrintWords Go.Proofs.YteklmgmhkmdddaaDoorW.PrintLast Go.Proofs.YteklmgmhkmdddaaDoorW.PrintMore
set_option linter.unusedVariables false
set_option linter.unusedSimpArgs false

def arith.T17 : Bool × List (List Nat × List Nat) := (true, [([], []), ([], []), ([1], [1]), ([0, 2, 2], [0, 2]), ([3], [3]), ([4], [4]), ([4], [4]), ([], []), ([7, 5, 3, 0, 1, 2, 3, 4, 5, 7], [5, 7]), ([6, 8, 0, 1, 2, 3, 4, 5, 6, 7, 8], [6])])
def arith.B17 : List Nat := [0, 0, 2, 7, 15, 31, 31, 0, 191, 511]
theorem arith.tab17 : rtab .any (opsOf Tryd.f7 17) = arith.T17 := by kernel_rfl
theorem arith.bits17 : waitsOk arith.T17.2 arith.B17 = true := by kernel_rfl
def arith.T21 : Bool × List (List Nat × List Nat) := (true, [([], []), ([], []), ([1], [1]), ([0, 2, 2], [0, 2]), ([3], [3]), ([4], [4]), ([4], [4]), ([], []), ([7, 5, 3, 0, 1, 2, 3, 4, 5, 7], [5, 7]), ([6, 8, 0, 1, 2, 3, 4, 5, 6, 7, 8], [6])])
def arith.B21 : List Nat := [0, 0, 2, 7, 15, 31, 31, 0, 191, 511]
theorem arith.tab21 : rtab .any (opsOf Tryd.f7 21) = arith.T21 := by kernel_rfl
theorem arith.bits21 : waitsOk arith.T21.2 arith.B21 = true := by kernel_rfl
/-- A box of a value, filled. -/
theorem box4 {W : World} {g : Nat} (v0 v1 v2 v3 : Value) (h : W.heap[g]? = some (.cells #[.int .u8 0, .bool false, .int .i64 0, .string (⟨#[]⟩ : ByteArray)] 25 (0, 0))) :
    ((((W.setCell ⟨g, 0, none⟩ v0).setCell ⟨g, 1, none⟩ v1).setCell ⟨g, 2, none⟩ v2).setCell ⟨g, 3, none⟩ v3).heap[g]? = some (.cells #[v0, v1, v2, v3] 25 (0, 0)) ∧
    (∀ k, k ≠ g → ((((W.setCell ⟨g, 0, none⟩ v0).setCell ⟨g, 1, none⟩ v1).setCell ⟨g, 2, none⟩ v2).setCell ⟨g, 3, none⟩ v3).heap[k]? = W.heap[k]?) ∧
    (∀ w : World, w.heap.size ≤ g → Below w.heap.size w W → Below w.heap.size w ((((W.setCell ⟨g, 0, none⟩ v0).setCell ⟨g, 1, none⟩ v1).setCell ⟨g, 2, none⟩ v2).setCell ⟨g, 3, none⟩ v3)) :=
  ⟨blk_put (cs := #[v0, v1, v2, .string ⟨#[]⟩]) (blk_put (cs := #[v0, v1, .int .i64 0, .string ⟨#[]⟩]) (blk_put (cs := #[v0, .bool false, .int .i64 0, .string ⟨#[]⟩]) (blk_put h 0 _ rfl) 1 _ rfl) 2 _ rfl) 3 _ rfl,
   fun k hk => (Below.heap_setCell _ ⟨g, 3, none⟩ _ k hk).trans ((Below.heap_setCell _ ⟨g, 2, none⟩ _ k hk).trans ((Below.heap_setCell _ ⟨g, 1, none⟩ _ k hk).trans (Below.heap_setCell _ ⟨g, 0, none⟩ _ k hk))),
   fun w hn hb => below_set (below_set (below_set (below_set hb hn) hn) hn) hn⟩
/-- Blocks that lie as they lay. -/
def PX (w : World) (l : List (Nat × Obj)) (w' : World) : Prop := (∀ p ∈ l, w'.heap[p.1]? = some p.2) ∧ Below w.heap.size w w'
theorem PX.below {w : World} {l : List (Nat × Obj)} {W W' : World} (h : PX w l W) (hb : Below W.heap.size W W') : PX w l W' := ⟨fun p hp => blk_below (h.1 p hp) hb, below_step h.2 hb⟩
theorem PX.fresh {w : World} {l : List (Nat × Obj)} {W : World} {g : Nat} (h : PX w l W) (hg : g = W.heap.size) : ∀ p ∈ l, p.1 ≠ g := fun p hp => by
  rw [hg]
  exact Nat.ne_of_lt (blk_lt (h.1 p hp))
theorem PX.far {w : World} {l : List (Nat × Obj)} {W W' : World} {g : Nat} (h : PX w l W) (h2 : ∀ k, k ≠ g → W'.heap[k]? = W.heap[k]?) (h3 : Below w.heap.size w W') (hne : ∀ p ∈ l, p.1 ≠ g) : PX w l W' := ⟨fun p hp => (h2 p.1 (hne p hp)).trans (h.1 p hp), h3⟩
theorem PX.mk2 {W : World} {g g' : Nat} {o o' : Obj} (h : W.heap[g]? = some o) (h' : W.heap[g']? = some o') : ∀ p ∈ [(g, o), (g', o')], W.heap[p.1]? = some p.2 := fun p hp => by
  simp only [List.mem_cons, List.not_mem_nil, or_false] at hp
  rcases hp with rfl | rfl
  · exact h
  · exact h'
theorem PX.mk3 {W : World} {g g' g'' : Nat} {o o' o'' : Obj} (h : W.heap[g]? = some o) (h' : W.heap[g']? = some o') (h'' : W.heap[g'']? = some o'') : ∀ p ∈ [(g, o), (g', o'), (g'', o'')], W.heap[p.1]? = some p.2 := fun p hp => by
  simp only [List.mem_cons, List.not_mem_nil, or_false] at hp
  rcases hp with rfl | rfl | rfl
  · exact h
  · exact h'
  · exact h''
set_option maxHeartbeats 4000000 in
set_option maxRecDepth 100000 in
theorem arith_walk (a b n : Int) (w : World) (ha : Q.In64 a) (hb0 : Q.In64 b) (hn : Q.In64 n) (hs : SG w) :
    Calls Tryd.prog 7 #[.int .i64 a, .int .i64 b, .int .i64 n] w fun e w' => e = .returned (.bool true) ∧ Below w.heap.size w w' := by
  have hu25 := Tryd.underlying25
  have HS := Aside0.mk hs
  have HA := Aside0.mk ha
  have HBB := Aside0.mk hb0
  have HN := Aside0.mk hn
  have HB := Aside0.mk (Below.refl w.heap.size w)
  clear hs ha hb0 hn
  go_enter Tryd.func7, Tryd.ntmps7
  go_wp2_with (fail)
  refine (monikerlaw8_num.calls (a) 2 false (a) ⟨#[]⟩ _ rfl).mono ?_
  rintro e wc ⟨rfl, hb⟩
  have n0_ := Aside0.mk (below_step HB.out hb)
  clear HB
  have HB := n0_
  clear n0_
  clear hb
  go_upto_region 2 with (first
    | ((with_reducible refine gate_dst (N := 7) rfl ?_); refine box_event ?hgg7 (N := 7) ?hdg7 (cs := #[.int .u8 0, .bool false, .int .i64 0, .string (⟨#[]⟩ : ByteArray)]) (t := 25) ?hrg7 ?_; (case hdg7 => rfl); (case hgg7 => rfl); (case hrg7 => first | (go_simp; done) | (go_simp; rfl)); intro g7 hg wb hbox hb; have hs0 : wb.cell? ⟨g7, 0, none⟩ = some (.int .u8 0) := (blk_cell hbox 0).trans rfl; have hf0 := blk_frozen hbox 0; have hs1 : wb.cell? ⟨g7, 1, none⟩ = some (.bool false) := (blk_cell hbox 1).trans rfl; have hf1 := blk_frozen hbox 1; have hs2 : wb.cell? ⟨g7, 2, none⟩ = some (.int .i64 0) := (blk_cell hbox 2).trans rfl; have hf2 := blk_frozen hbox 2; have hs3 : wb.cell? ⟨g7, 3, none⟩ = some (.string (⟨#[]⟩ : ByteArray)) := (blk_cell hbox 3).trans rfl; have hf3 := blk_frozen hbox 3; have n0_ := Aside0.mk (below_step HB.out hb); have NB := Aside0.mk hbox; have GEb := Aside0.mk (show w.heap.size ≤ g7 by rw [hg]; exact HB.out.size); clear HB; have HB := n0_; clear n0_; clear hb hbox hg))
  obtain ⟨st1, st2, st3⟩ := box4 (.int .u8 2) (.bool false) (.int .i64 (a)) (.string (⟨#[]⟩ : ByteArray)) NB.out
  have nb_ := Aside0.mk (st3 w GEb.out HB.out)
  have ng_ := Aside0.mk st1
  clear st1 st2 st3 NB hs0 hf0 hs1 hf1 hs2 hf2 hs3 hf3 HB
  generalize ((((wb.setCell ⟨g7, 0, none⟩ (.int .u8 2)).setCell ⟨g7, 1, none⟩ (.bool false)).setCell ⟨g7, 2, none⟩ (.int .i64 (a))).setCell ⟨g7, 3, none⟩ (.string (⟨#[]⟩ : ByteArray))) = w1 at *
  have HB := nb_
  have BKg7 := ng_
  have GEg7 := GEb
  clear nb_ ng_ GEb
  go_wp2_with (fail)
  refine (monikerlaw8_num.calls (b) 2 false (b) ⟨#[]⟩ _ rfl).mono ?_
  rintro e wc ⟨rfl, hb⟩
  have n0_ := Aside0.mk (below_step HB.out hb)
  clear HB
  have HB := n0_
  clear n0_
  have n_ := Aside0.mk (blk_below BKg7.out hb)
  clear BKg7
  have BKg7 := n_
  clear n_
  clear hb
  go_upto_region 3 with (first
    | ((with_reducible refine gate_dst (N := 8) rfl ?_); refine box_event ?hgg8 (N := 8) ?hdg8 (cs := #[.int .u8 0, .bool false, .int .i64 0, .string (⟨#[]⟩ : ByteArray)]) (t := 25) ?hrg8 ?_; (case hdg8 => rfl); (case hgg8 => rfl); (case hrg8 => first | (go_simp; done) | (go_simp; rfl)); intro g8 hg wb hbox hb; have hs0 : wb.cell? ⟨g8, 0, none⟩ = some (.int .u8 0) := (blk_cell hbox 0).trans rfl; have hf0 := blk_frozen hbox 0; have hs1 : wb.cell? ⟨g8, 1, none⟩ = some (.bool false) := (blk_cell hbox 1).trans rfl; have hf1 := blk_frozen hbox 1; have hs2 : wb.cell? ⟨g8, 2, none⟩ = some (.int .i64 0) := (blk_cell hbox 2).trans rfl; have hf2 := blk_frozen hbox 2; have hs3 : wb.cell? ⟨g8, 3, none⟩ = some (.string (⟨#[]⟩ : ByteArray)) := (blk_cell hbox 3).trans rfl; have hf3 := blk_frozen hbox 3; have n0_ := Aside0.mk (below_step HB.out hb); have NB := Aside0.mk hbox; have GEb := Aside0.mk (show w.heap.size ≤ g8 by rw [hg]; exact HB.out.size); have n_BKg7 := Aside0.mk (blk_below BKg7.out hb); have NEBKg7 := Aside0.mk (show g7 ≠ g8 by rw [hg]; exact Nat.ne_of_lt (blk_lt BKg7.out)); clear HB; have HB := n0_; clear n0_; clear BKg7; have BKg7 := n_BKg7; clear n_BKg7; clear hb hbox hg))
  obtain ⟨st1, st2, st3⟩ := box4 (.int .u8 2) (.bool false) (.int .i64 (b)) (.string (⟨#[]⟩ : ByteArray)) NB.out
  have nb_ := Aside0.mk (st3 w GEb.out HB.out)
  have n_g7 := Aside0.mk ((st2 g7 (fun e => NEBKg7.out e)).trans BKg7.out)
  have ng_ := Aside0.mk st1
  clear st1 st2 st3 NB hs0 hf0 hs1 hf1 hs2 hf2 hs3 hf3 HB
  clear BKg7
  generalize ((((wb.setCell ⟨g8, 0, none⟩ (.int .u8 2)).setCell ⟨g8, 1, none⟩ (.bool false)).setCell ⟨g8, 2, none⟩ (.int .i64 (b))).setCell ⟨g8, 3, none⟩ (.string (⟨#[]⟩ : ByteArray))) = w2 at *
  have HB := nb_
  have BKg8 := ng_
  have GEg8 := GEb
  clear nb_ ng_ GEb
  have BKg7 := n_g7
  clear n_g7 NEBKg7
  obtain ⟨⟨v1, v2, v3, v4, v5⟩, hV⟩ : ∃ V, Q.numV 32 a b = V := ⟨_, rfl⟩
  have HV := Aside0.mk hV
  clear hV
  have qg7_0 : w2.cell? ⟨g7, 0, none⟩ = some (.int .u8 2) := (blk_cell BKg7.out 0).trans rfl
  have qg7_1 : w2.cell? ⟨g7, 1, none⟩ = some (.bool false) := (blk_cell BKg7.out 1).trans rfl
  have qg7_2 : w2.cell? ⟨g7, 2, none⟩ = some (.int .i64 (a)) := (blk_cell BKg7.out 2).trans rfl
  have qg7_3 : w2.cell? ⟨g7, 3, none⟩ = some (.string (⟨#[]⟩ : ByteArray)) := (blk_cell BKg7.out 3).trans rfl
  have qg8_0 : w2.cell? ⟨g8, 0, none⟩ = some (.int .u8 2) := (blk_cell BKg8.out 0).trans rfl
  have qg8_1 : w2.cell? ⟨g8, 1, none⟩ = some (.bool false) := (blk_cell BKg8.out 1).trans rfl
  have qg8_2 : w2.cell? ⟨g8, 2, none⟩ = some (.int .i64 (b)) := (blk_cell BKg8.out 2).trans rfl
  have qg8_3 : w2.cell? ⟨g8, 3, none⟩ = some (.string (⟨#[]⟩ : ByteArray)) := (blk_cell BKg8.out 3).trans rfl
  go_wp2_with (fail)
  refine (consts_Binary.calls 5 32 2 false a ⟨#[]⟩ 2 false b ⟨#[]⟩ v1 v2 v3 v4 v5 _ (Q.binN 32 a b (by decide) rfl HA.out HBB.out _ HV.out) (SG.grow HS.out HB.out)).mono ?_
  rintro e wc ⟨rfl, hb⟩
  clear qg7_0 qg7_1 qg7_2 qg7_3 qg8_0 qg8_1 qg8_2 qg8_3
  have n0_ := Aside0.mk (below_step HB.out hb)
  clear HB
  have HB := n0_
  clear n0_
  have n_ := Aside0.mk (blk_below BKg7.out hb)
  clear BKg7
  have BKg7 := n_
  clear n_
  have n_ := Aside0.mk (blk_below BKg8.out hb)
  clear BKg8
  have BKg8 := n_
  clear n_
  clear hb
  go_upto_region 4 with (first
    | ((with_reducible refine gate_dst (N := 9) rfl ?_); refine box_event ?hgg9 (N := 9) ?hdg9 (cs := #[.int .u8 0, .bool false, .int .i64 0, .string (⟨#[]⟩ : ByteArray)]) (t := 25) ?hrg9 ?_; (case hdg9 => rfl); (case hgg9 => rfl); (case hrg9 => first | (go_simp; done) | (go_simp; rfl)); intro g9 hg wb hbox hb; have hs0 : wb.cell? ⟨g9, 0, none⟩ = some (.int .u8 0) := (blk_cell hbox 0).trans rfl; have hf0 := blk_frozen hbox 0; have hs1 : wb.cell? ⟨g9, 1, none⟩ = some (.bool false) := (blk_cell hbox 1).trans rfl; have hf1 := blk_frozen hbox 1; have hs2 : wb.cell? ⟨g9, 2, none⟩ = some (.int .i64 0) := (blk_cell hbox 2).trans rfl; have hf2 := blk_frozen hbox 2; have hs3 : wb.cell? ⟨g9, 3, none⟩ = some (.string (⟨#[]⟩ : ByteArray)) := (blk_cell hbox 3).trans rfl; have hf3 := blk_frozen hbox 3; have n0_ := Aside0.mk (below_step HB.out hb); have NB := Aside0.mk hbox; have GEb := Aside0.mk (show w.heap.size ≤ g9 by rw [hg]; exact HB.out.size); have n_BKg7 := Aside0.mk (blk_below BKg7.out hb); have n_BKg8 := Aside0.mk (blk_below BKg8.out hb); have NEBKg7 := Aside0.mk (show g7 ≠ g9 by rw [hg]; exact Nat.ne_of_lt (blk_lt BKg7.out)); have NEBKg8 := Aside0.mk (show g8 ≠ g9 by rw [hg]; exact Nat.ne_of_lt (blk_lt BKg8.out)); clear HB; have HB := n0_; clear n0_; clear BKg7; have BKg7 := n_BKg7; clear n_BKg7; clear BKg8; have BKg8 := n_BKg8; clear n_BKg8; clear hb hbox hg))
  obtain ⟨st1, st2, st3⟩ := box4 (.int .u8 v1) (.bool v2) (.int .i64 v3) (.string v4) NB.out
  have nb_ := Aside0.mk (st3 w GEb.out HB.out)
  have n_g7 := Aside0.mk ((st2 g7 (fun e => NEBKg7.out e)).trans BKg7.out)
  have n_g8 := Aside0.mk ((st2 g8 (fun e => NEBKg8.out e)).trans BKg8.out)
  have ng_ := Aside0.mk st1
  clear st1 st2 st3 NB hs0 hf0 hs1 hf1 hs2 hf2 hs3 hf3 HB
  clear BKg7
  clear BKg8
  generalize ((((wb.setCell ⟨g9, 0, none⟩ (.int .u8 v1)).setCell ⟨g9, 1, none⟩ (.bool v2)).setCell ⟨g9, 2, none⟩ (.int .i64 v3)).setCell ⟨g9, 3, none⟩ (.string v4)) = w3 at *
  have HB := nb_
  have BKg9 := ng_
  have GEg9 := GEb
  clear nb_ ng_ GEb
  have BKg7 := n_g7
  clear n_g7 NEBKg7
  have BKg8 := n_g8
  clear n_g8 NEBKg8
  go_upto_if 42 with (fail)
  go_cut [11, 12] (fun v11_ v12_ wc => Aside0 (wc.heap[g7]? = some (.cells #[.int .u8 2, .bool false, .int .i64 (a), .string (⟨#[]⟩ : ByteArray)] 25 (0, 0))) ∧ Aside0 (wc.heap[g8]? = some (.cells #[.int .u8 2, .bool false, .int .i64 (b), .string (⟨#[]⟩ : ByteArray)] 25 (0, 0))) ∧ Aside0 (Below w.heap.size w wc))
  case first =>
    as_aux_lemma =>
      have hV := HV.out
      by_cases hA : Q.In64 (a + b)
      · have HA2 := Aside0.mk hA
        rw [show Q.numV 32 a b = Q.fit (a + b) from rfl, Q.fit_ok hA] at hV
        clear hA HV
        simp only [Q.okN, Prod.mk.injEq] at hV
        obtain ⟨rfl, rfl, rfl, rfl, rfl⟩ := hV
        have qg7_0 : w3.cell? ⟨g7, 0, none⟩ = some (.int .u8 2) := (blk_cell BKg7.out 0).trans rfl
        have qg7_1 : w3.cell? ⟨g7, 1, none⟩ = some (.bool false) := (blk_cell BKg7.out 1).trans rfl
        have qg7_2 : w3.cell? ⟨g7, 2, none⟩ = some (.int .i64 (a)) := (blk_cell BKg7.out 2).trans rfl
        have qg7_3 : w3.cell? ⟨g7, 3, none⟩ = some (.string (⟨#[]⟩ : ByteArray)) := (blk_cell BKg7.out 3).trans rfl
        have qg8_0 : w3.cell? ⟨g8, 0, none⟩ = some (.int .u8 2) := (blk_cell BKg8.out 0).trans rfl
        have qg8_1 : w3.cell? ⟨g8, 1, none⟩ = some (.bool false) := (blk_cell BKg8.out 1).trans rfl
        have qg8_2 : w3.cell? ⟨g8, 2, none⟩ = some (.int .i64 (b)) := (blk_cell BKg8.out 2).trans rfl
        have qg8_3 : w3.cell? ⟨g8, 3, none⟩ = some (.string (⟨#[]⟩ : ByteArray)) := (blk_cell BKg8.out 3).trans rfl
        have qg9_0 : w3.cell? ⟨g9, 0, none⟩ = some (.int .u8 2) := (blk_cell BKg9.out 0).trans rfl
        have qg9_1 : w3.cell? ⟨g9, 1, none⟩ = some (.bool false) := (blk_cell BKg9.out 1).trans rfl
        have qg9_2 : w3.cell? ⟨g9, 2, none⟩ = some (.int .i64 (a + b)) := (blk_cell BKg9.out 2).trans rfl
        have qg9_3 : w3.cell? ⟨g9, 3, none⟩ = some (.string (⟨#[]⟩ : ByteArray)) := (blk_cell BKg9.out 3).trans rfl
        go_wp2_with (fail)
        refine (consts_Binary.calls 5 33 2 false (a + b) ⟨#[]⟩ 2 false (b) ⟨#[]⟩ (2) (false) ((a)) ((⟨#[]⟩ : ByteArray)) (0) _ (Q.binN 33 (a + b) b (by decide) rfl HA2.out HBB.out _ (Q.sub_back HA.out)) (SG.grow HS.out HB.out)).mono ?_
        rintro e wc ⟨rfl, hb⟩
        clear qg7_0 qg7_1 qg7_2 qg7_3 qg8_0 qg8_1 qg8_2 qg8_3 qg9_0 qg9_1 qg9_2 qg9_3
        have n0_ := Aside0.mk (below_step HB.out hb)
        clear HB
        have HB := n0_
        clear n0_
        have n_ := Aside0.mk (blk_below BKg7.out hb)
        clear BKg7
        have BKg7 := n_
        clear n_
        have n_ := Aside0.mk (blk_below BKg8.out hb)
        clear BKg8
        have BKg8 := n_
        clear n_
        have n_ := Aside0.mk (blk_below BKg9.out hb)
        clear BKg9
        have BKg9 := n_
        clear n_
        clear hb
        go_upto_region 6 with (first
          | ((with_reducible refine gate_dst (N := 11) rfl ?_); refine box_event ?hgg11 (N := 11) ?hdg11 (cs := #[.int .u8 0, .bool false, .int .i64 0, .string (⟨#[]⟩ : ByteArray)]) (t := 25) ?hrg11 ?_; (case hdg11 => rfl); (case hgg11 => rfl); (case hrg11 => first | (go_simp; done) | (go_simp; rfl)); intro g11 hg wb hbox hb; have hs0 : wb.cell? ⟨g11, 0, none⟩ = some (.int .u8 0) := (blk_cell hbox 0).trans rfl; have hf0 := blk_frozen hbox 0; have hs1 : wb.cell? ⟨g11, 1, none⟩ = some (.bool false) := (blk_cell hbox 1).trans rfl; have hf1 := blk_frozen hbox 1; have hs2 : wb.cell? ⟨g11, 2, none⟩ = some (.int .i64 0) := (blk_cell hbox 2).trans rfl; have hf2 := blk_frozen hbox 2; have hs3 : wb.cell? ⟨g11, 3, none⟩ = some (.string (⟨#[]⟩ : ByteArray)) := (blk_cell hbox 3).trans rfl; have hf3 := blk_frozen hbox 3; have n0_ := Aside0.mk (below_step HB.out hb); have NB := Aside0.mk hbox; have GEb := Aside0.mk (show w.heap.size ≤ g11 by rw [hg]; exact HB.out.size); have n_BKg7 := Aside0.mk (blk_below BKg7.out hb); have n_BKg8 := Aside0.mk (blk_below BKg8.out hb); have n_BKg9 := Aside0.mk (blk_below BKg9.out hb); have NEBKg7 := Aside0.mk (show g7 ≠ g11 by rw [hg]; exact Nat.ne_of_lt (blk_lt BKg7.out)); have NEBKg8 := Aside0.mk (show g8 ≠ g11 by rw [hg]; exact Nat.ne_of_lt (blk_lt BKg8.out)); have NEBKg9 := Aside0.mk (show g9 ≠ g11 by rw [hg]; exact Nat.ne_of_lt (blk_lt BKg9.out)); clear HB; have HB := n0_; clear n0_; clear BKg7; have BKg7 := n_BKg7; clear n_BKg7; clear BKg8; have BKg8 := n_BKg8; clear n_BKg8; clear BKg9; have BKg9 := n_BKg9; clear n_BKg9; clear hb hbox hg))
        obtain ⟨st1, st2, st3⟩ := box4 (.int .u8 2) (.bool false) (.int .i64 (a)) (.string (⟨#[]⟩ : ByteArray)) NB.out
        have nb_ := Aside0.mk (st3 w GEb.out HB.out)
        have n_g7 := Aside0.mk ((st2 g7 (fun e => NEBKg7.out e)).trans BKg7.out)
        have n_g8 := Aside0.mk ((st2 g8 (fun e => NEBKg8.out e)).trans BKg8.out)
        have n_g9 := Aside0.mk ((st2 g9 (fun e => NEBKg9.out e)).trans BKg9.out)
        have ng_ := Aside0.mk st1
        clear st1 st2 st3 NB hs0 hf0 hs1 hf1 hs2 hf2 hs3 hf3 HB
        clear BKg7
        clear BKg8
        clear BKg9
        generalize ((((wb.setCell ⟨g11, 0, none⟩ (.int .u8 2)).setCell ⟨g11, 1, none⟩ (.bool false)).setCell ⟨g11, 2, none⟩ (.int .i64 (a))).setCell ⟨g11, 3, none⟩ (.string (⟨#[]⟩ : ByteArray))) = w4 at *
        have HB := nb_
        have BKg11 := ng_
        have GEg11 := GEb
        clear nb_ ng_ GEb
        have BKg7 := n_g7
        clear n_g7 NEBKg7
        have BKg8 := n_g8
        clear n_g8 NEBKg8
        have BKg9 := n_g9
        clear n_g9 NEBKg9
        have qg11_0 : w4.cell? ⟨g11, 0, none⟩ = some (.int .u8 2) := (blk_cell BKg11.out 0).trans rfl
        have qg11_1 : w4.cell? ⟨g11, 1, none⟩ = some (.bool false) := (blk_cell BKg11.out 1).trans rfl
        have qg11_2 : w4.cell? ⟨g11, 2, none⟩ = some (.int .i64 (a)) := (blk_cell BKg11.out 2).trans rfl
        have qg11_3 : w4.cell? ⟨g11, 3, none⟩ = some (.string (⟨#[]⟩ : ByteArray)) := (blk_cell BKg11.out 3).trans rfl
        have qg7_0 : w4.cell? ⟨g7, 0, none⟩ = some (.int .u8 2) := (blk_cell BKg7.out 0).trans rfl
        have qg7_1 : w4.cell? ⟨g7, 1, none⟩ = some (.bool false) := (blk_cell BKg7.out 1).trans rfl
        have qg7_2 : w4.cell? ⟨g7, 2, none⟩ = some (.int .i64 (a)) := (blk_cell BKg7.out 2).trans rfl
        have qg7_3 : w4.cell? ⟨g7, 3, none⟩ = some (.string (⟨#[]⟩ : ByteArray)) := (blk_cell BKg7.out 3).trans rfl
        go_wp2
        go_meet
        case rel => exact ⟨BKg7, BKg8, HB⟩
      · rw [show Q.numV 32 a b = Q.fit (a + b) from rfl, Q.fit_er hA] at hV
        clear hA HV
        simp only [Q.erV, Prod.mk.injEq] at hV
        obtain ⟨rfl, rfl, rfl, rfl, rfl⟩ := hV
        go_wp2
        go_meet
        case rel => exact ⟨BKg7, BKg8, HB⟩
  case rest =>
    as_aux_lemma =>
      obtain ⟨BKg7, BKg8, HB⟩ := hcut
      obtain ⟨⟨v1, v2, v3, v4, v5⟩, hV⟩ : ∃ V, Q.numV 35 a b = V := ⟨_, rfl⟩
      have HV := Aside0.mk hV
      clear hV
      have qg7_0 : wc.cell? ⟨g7, 0, none⟩ = some (.int .u8 2) := (blk_cell BKg7.out 0).trans rfl
      have qg7_1 : wc.cell? ⟨g7, 1, none⟩ = some (.bool false) := (blk_cell BKg7.out 1).trans rfl
      have qg7_2 : wc.cell? ⟨g7, 2, none⟩ = some (.int .i64 (a)) := (blk_cell BKg7.out 2).trans rfl
      have qg7_3 : wc.cell? ⟨g7, 3, none⟩ = some (.string (⟨#[]⟩ : ByteArray)) := (blk_cell BKg7.out 3).trans rfl
      have qg8_0 : wc.cell? ⟨g8, 0, none⟩ = some (.int .u8 2) := (blk_cell BKg8.out 0).trans rfl
      have qg8_1 : wc.cell? ⟨g8, 1, none⟩ = some (.bool false) := (blk_cell BKg8.out 1).trans rfl
      have qg8_2 : wc.cell? ⟨g8, 2, none⟩ = some (.int .i64 (b)) := (blk_cell BKg8.out 2).trans rfl
      have qg8_3 : wc.cell? ⟨g8, 3, none⟩ = some (.string (⟨#[]⟩ : ByteArray)) := (blk_cell BKg8.out 3).trans rfl
      go_wp2_with (fail)
      refine (consts_Binary.calls 5 35 2 false a ⟨#[]⟩ 2 false b ⟨#[]⟩ v1 v2 v3 v4 v5 _ (Q.binN 35 a b (by decide) rfl HA.out HBB.out _ HV.out) (SG.grow HS.out HB.out)).mono ?_
      rintro e wd ⟨rfl, hb⟩
      clear qg7_0 qg7_1 qg7_2 qg7_3 qg8_0 qg8_1 qg8_2 qg8_3
      have n0_ := Aside0.mk (below_step HB.out hb)
      clear HB
      have HB := n0_
      clear n0_
      have n_ := Aside0.mk (blk_below BKg7.out hb)
      clear BKg7
      have BKg7 := n_
      clear n_
      have n_ := Aside0.mk (blk_below BKg8.out hb)
      clear BKg8
      have BKg8 := n_
      clear n_
      clear hb
      go_upto_region 9 with (first
        | ((with_reducible refine gate_dst (N := 13) rfl ?_); refine box_event ?hgg13 (N := 13) ?hdg13 (cs := #[.int .u8 0, .bool false, .int .i64 0, .string (⟨#[]⟩ : ByteArray)]) (t := 25) ?hrg13 ?_; (case hdg13 => rfl); (case hgg13 => rfl); (case hrg13 => first | (go_simp; done) | (go_simp; rfl)); intro g13 hg wb hbox hb; have hs0 : wb.cell? ⟨g13, 0, none⟩ = some (.int .u8 0) := (blk_cell hbox 0).trans rfl; have hf0 := blk_frozen hbox 0; have hs1 : wb.cell? ⟨g13, 1, none⟩ = some (.bool false) := (blk_cell hbox 1).trans rfl; have hf1 := blk_frozen hbox 1; have hs2 : wb.cell? ⟨g13, 2, none⟩ = some (.int .i64 0) := (blk_cell hbox 2).trans rfl; have hf2 := blk_frozen hbox 2; have hs3 : wb.cell? ⟨g13, 3, none⟩ = some (.string (⟨#[]⟩ : ByteArray)) := (blk_cell hbox 3).trans rfl; have hf3 := blk_frozen hbox 3; have n0_ := Aside0.mk (below_step HB.out hb); have NB := Aside0.mk hbox; have GEb := Aside0.mk (show w.heap.size ≤ g13 by rw [hg]; exact HB.out.size); have n_BKg7 := Aside0.mk (blk_below BKg7.out hb); have n_BKg8 := Aside0.mk (blk_below BKg8.out hb); have NEBKg7 := Aside0.mk (show g7 ≠ g13 by rw [hg]; exact Nat.ne_of_lt (blk_lt BKg7.out)); have NEBKg8 := Aside0.mk (show g8 ≠ g13 by rw [hg]; exact Nat.ne_of_lt (blk_lt BKg8.out)); clear HB; have HB := n0_; clear n0_; clear BKg7; have BKg7 := n_BKg7; clear n_BKg7; clear BKg8; have BKg8 := n_BKg8; clear n_BKg8; clear hb hbox hg))
      obtain ⟨st1, st2, st3⟩ := box4 (.int .u8 v1) (.bool v2) (.int .i64 v3) (.string v4) NB.out
      have nb_ := Aside0.mk (st3 w GEb.out HB.out)
      have n_g7 := Aside0.mk ((st2 g7 (fun e => NEBKg7.out e)).trans BKg7.out)
      have n_g8 := Aside0.mk ((st2 g8 (fun e => NEBKg8.out e)).trans BKg8.out)
      have ng_ := Aside0.mk st1
      clear st1 st2 st3 NB hs0 hf0 hs1 hf1 hs2 hf2 hs3 hf3 HB
      clear BKg7
      clear BKg8
      generalize ((((wb.setCell ⟨g13, 0, none⟩ (.int .u8 v1)).setCell ⟨g13, 1, none⟩ (.bool v2)).setCell ⟨g13, 2, none⟩ (.int .i64 v3)).setCell ⟨g13, 3, none⟩ (.string v4)) = w5 at *
      have HB := nb_
      have BKg13 := ng_
      have GEg13 := GEb
      clear nb_ ng_ GEb
      have BKg7 := n_g7
      clear n_g7 NEBKg7
      have BKg8 := n_g8
      clear n_g8 NEBKg8
      go_cut [74] (fun v74_ wc => v74_ = .bool false ∧ Aside0 (wc.heap[g13]? = some (.cells #[.int .u8 v1, .bool v2, .int .i64 v3, .string v4] 25 (0, 0))) ∧ Aside0 (wc.heap[g7]? = some (.cells #[.int .u8 2, .bool false, .int .i64 (a), .string (⟨#[]⟩ : ByteArray)] 25 (0, 0))) ∧ Aside0 (wc.heap[g8]? = some (.cells #[.int .u8 2, .bool false, .int .i64 (b), .string (⟨#[]⟩ : ByteArray)] 25 (0, 0))) ∧ Aside0 (Below w.heap.size w wc))
      case first =>
        as_aux_lemma =>
          have hV := HV.out
          by_cases hb1 : b = 0
          · rw [Q.quo_er (.inl hb1)] at hV
            clear HV
            simp only [Q.erV, Prod.mk.injEq] at hV
            obtain ⟨rfl, rfl, rfl, rfl, rfl⟩ := hV
            subst hb1
            go_wp2
            go_meet
            case rel => exact ⟨rfl, BKg13, BKg7, BKg8, HB⟩
          · have f1 : (b == 0) = false := beq_eq_false_iff_ne.2 hb1
            by_cases hb2 : a = -9223372036854775808 ∧ b = -1
            · rw [Q.quo_er (.inr hb2)] at hV
              clear HV
              simp only [Q.erV, Prod.mk.injEq] at hV
              obtain ⟨rfl, rfl, rfl, rfl, rfl⟩ := hV
              obtain ⟨rfl, rfl⟩ := hb2
              go_wp2
              go_meet
              case rel => exact ⟨rfl, BKg13, BKg7, BKg8, HB⟩
            · rw [(Q.quo_ok HA.out HBB.out hb1 hb2).1] at hV
              clear HV
              simp only [Q.okN, Prod.mk.injEq] at hV
              obtain ⟨rfl, rfl, rfl, rfl, rfl⟩ := hV
              by_cases hb3 : a = -9223372036854775808
              · have f2 : (a == -9223372036854775808) = true := beq_iff_eq.2 hb3
                have f3 : (b == -1) = false := beq_eq_false_iff_ne.2 (fun h => hb2 ⟨hb3, h⟩)
                clear hb1 hb2 hb3
                go_wp2
                go_meet
                case rel => exact ⟨rfl, BKg13, BKg7, BKg8, HB⟩
              · have f2 : (a == -9223372036854775808) = false := beq_eq_false_iff_ne.2 hb3
                clear hb1 hb2 hb3
                go_wp2
                go_meet
                case rel => exact ⟨rfl, BKg13, BKg7, BKg8, HB⟩
      case rest =>
        as_aux_lemma =>
          obtain ⟨rfl, BKg13, BKg7, BKg8, HB⟩ := hcut
          go_upto_if 76 with (fail)
          go_cut [14, 15, 16, 17, 18, 19] (fun v14_ v15_ v16_ v17_ v18_ v19_ wc => Aside0 (wc.heap[g7]? = some (.cells #[.int .u8 2, .bool false, .int .i64 (a), .string (⟨#[]⟩ : ByteArray)] 25 (0, 0))) ∧ Aside0 (wc.heap[g8]? = some (.cells #[.int .u8 2, .bool false, .int .i64 (b), .string (⟨#[]⟩ : ByteArray)] 25 (0, 0))) ∧ Aside0 (Below w.heap.size w wc))
          case first =>
            as_aux_lemma =>
              have hV := HV.out
              by_cases hb1 : b = 0 ∨ (a = -9223372036854775808 ∧ b = -1)
              · rw [Q.quo_er hb1] at hV
                clear HV
                simp only [Q.erV, Prod.mk.injEq] at hV
                obtain ⟨rfl, rfl, rfl, rfl, rfl⟩ := hV
                clear hb1
                go_wp2
                go_meet
                case rel => exact ⟨BKg7, BKg8, HB⟩
              · have HQ := Aside0.mk (show b ≠ 0 ∧ ¬ (a = -9223372036854775808 ∧ b = -1) from ⟨fun h => hb1 (.inl h), fun h => hb1 (.inr h)⟩)
                rw [(Q.quo_ok HA.out HBB.out HQ.out.1 HQ.out.2).1] at hV
                clear HV
                simp only [Q.okN, Prod.mk.injEq] at hV
                obtain ⟨rfl, rfl, rfl, rfl, rfl⟩ := hV
                clear hb1
                have HDI := Aside0.mk (Q.quo_ok HA.out HBB.out HQ.out.1 HQ.out.2).2
                have qg7_0 : wc.cell? ⟨g7, 0, none⟩ = some (.int .u8 2) := (blk_cell BKg7.out 0).trans rfl
                have qg7_1 : wc.cell? ⟨g7, 1, none⟩ = some (.bool false) := (blk_cell BKg7.out 1).trans rfl
                have qg7_2 : wc.cell? ⟨g7, 2, none⟩ = some (.int .i64 (a)) := (blk_cell BKg7.out 2).trans rfl
                have qg7_3 : wc.cell? ⟨g7, 3, none⟩ = some (.string (⟨#[]⟩ : ByteArray)) := (blk_cell BKg7.out 3).trans rfl
                have qg8_0 : wc.cell? ⟨g8, 0, none⟩ = some (.int .u8 2) := (blk_cell BKg8.out 0).trans rfl
                have qg8_1 : wc.cell? ⟨g8, 1, none⟩ = some (.bool false) := (blk_cell BKg8.out 1).trans rfl
                have qg8_2 : wc.cell? ⟨g8, 2, none⟩ = some (.int .i64 (b)) := (blk_cell BKg8.out 2).trans rfl
                have qg8_3 : wc.cell? ⟨g8, 3, none⟩ = some (.string (⟨#[]⟩ : ByteArray)) := (blk_cell BKg8.out 3).trans rfl
                have qg13_0 : wc.cell? ⟨g13, 0, none⟩ = some (.int .u8 2) := (blk_cell BKg13.out 0).trans rfl
                have qg13_1 : wc.cell? ⟨g13, 1, none⟩ = some (.bool false) := (blk_cell BKg13.out 1).trans rfl
                have qg13_2 : wc.cell? ⟨g13, 2, none⟩ = some (.int .i64 (Int.tdiv a b)) := (blk_cell BKg13.out 2).trans rfl
                have qg13_3 : wc.cell? ⟨g13, 3, none⟩ = some (.string (⟨#[]⟩ : ByteArray)) := (blk_cell BKg13.out 3).trans rfl
                go_wp2_with (fail)
                refine (consts_Binary.calls 5 36 2 false (a) ⟨#[]⟩ 2 false (b) ⟨#[]⟩ (2) (false) ((Int.tmod a b)) ((⟨#[]⟩ : ByteArray)) (0) _ (Q.binN 36 a b (by decide) rfl HA.out HBB.out _ (Q.rem_ok HQ.out.1)) (SG.grow HS.out HB.out)).mono ?_
                rintro e wc ⟨rfl, hb⟩
                clear qg7_0 qg7_1 qg7_2 qg7_3 qg8_0 qg8_1 qg8_2 qg8_3 qg13_0 qg13_1 qg13_2 qg13_3
                have n0_ := Aside0.mk (below_step HB.out hb)
                clear HB
                have HB := n0_
                clear n0_
                have n_ := Aside0.mk (blk_below BKg7.out hb)
                clear BKg7
                have BKg7 := n_
                clear n_
                have n_ := Aside0.mk (blk_below BKg8.out hb)
                clear BKg8
                have BKg8 := n_
                clear n_
                have n_ := Aside0.mk (blk_below BKg13.out hb)
                clear BKg13
                have BKg13 := n_
                clear n_
                clear hb
                go_upto_region 13 with (first
                  | ((with_reducible refine gate_dst (N := 14) rfl ?_); refine box_event ?hgg14 (N := 14) ?hdg14 (cs := #[.int .u8 0, .bool false, .int .i64 0, .string (⟨#[]⟩ : ByteArray)]) (t := 25) ?hrg14 ?_; (case hdg14 => rfl); (case hgg14 => rfl); (case hrg14 => first | (go_simp; done) | (go_simp; rfl)); intro g14 hg wb hbox hb; have hs0 : wb.cell? ⟨g14, 0, none⟩ = some (.int .u8 0) := (blk_cell hbox 0).trans rfl; have hf0 := blk_frozen hbox 0; have hs1 : wb.cell? ⟨g14, 1, none⟩ = some (.bool false) := (blk_cell hbox 1).trans rfl; have hf1 := blk_frozen hbox 1; have hs2 : wb.cell? ⟨g14, 2, none⟩ = some (.int .i64 0) := (blk_cell hbox 2).trans rfl; have hf2 := blk_frozen hbox 2; have hs3 : wb.cell? ⟨g14, 3, none⟩ = some (.string (⟨#[]⟩ : ByteArray)) := (blk_cell hbox 3).trans rfl; have hf3 := blk_frozen hbox 3; have n0_ := Aside0.mk (below_step HB.out hb); have NB := Aside0.mk hbox; have GEb := Aside0.mk (show w.heap.size ≤ g14 by rw [hg]; exact HB.out.size); have n_BKg7 := Aside0.mk (blk_below BKg7.out hb); have n_BKg8 := Aside0.mk (blk_below BKg8.out hb); have n_BKg13 := Aside0.mk (blk_below BKg13.out hb); have NEBKg7 := Aside0.mk (show g7 ≠ g14 by rw [hg]; exact Nat.ne_of_lt (blk_lt BKg7.out)); have NEBKg8 := Aside0.mk (show g8 ≠ g14 by rw [hg]; exact Nat.ne_of_lt (blk_lt BKg8.out)); have NEBKg13 := Aside0.mk (show g13 ≠ g14 by rw [hg]; exact Nat.ne_of_lt (blk_lt BKg13.out)); clear HB; have HB := n0_; clear n0_; clear BKg7; have BKg7 := n_BKg7; clear n_BKg7; clear BKg8; have BKg8 := n_BKg8; clear n_BKg8; clear BKg13; have BKg13 := n_BKg13; clear n_BKg13; clear hb hbox hg))
                obtain ⟨st1, st2, st3⟩ := box4 (.int .u8 2) (.bool false) (.int .i64 (Int.tmod a b)) (.string (⟨#[]⟩ : ByteArray)) NB.out
                have nb_ := Aside0.mk (st3 w GEb.out HB.out)
                have n_g7 := Aside0.mk ((st2 g7 (fun e => NEBKg7.out e)).trans BKg7.out)
                have n_g8 := Aside0.mk ((st2 g8 (fun e => NEBKg8.out e)).trans BKg8.out)
                have n_g13 := Aside0.mk ((st2 g13 (fun e => NEBKg13.out e)).trans BKg13.out)
                have ng_ := Aside0.mk st1
                clear st1 st2 st3 NB hs0 hf0 hs1 hf1 hs2 hf2 hs3 hf3 HB
                clear BKg7
                clear BKg8
                clear BKg13
                generalize ((((wb.setCell ⟨g14, 0, none⟩ (.int .u8 2)).setCell ⟨g14, 1, none⟩ (.bool false)).setCell ⟨g14, 2, none⟩ (.int .i64 (Int.tmod a b))).setCell ⟨g14, 3, none⟩ (.string (⟨#[]⟩ : ByteArray))) = w6 at *
                have HB := nb_
                have BKg14 := ng_
                have GEg14 := GEb
                clear nb_ ng_ GEb
                have BKg7 := n_g7
                clear n_g7 NEBKg7
                have BKg8 := n_g8
                clear n_g8 NEBKg8
                have BKg13 := n_g13
                clear n_g13 NEBKg13
                have qg7_0 : w6.cell? ⟨g7, 0, none⟩ = some (.int .u8 2) := (blk_cell BKg7.out 0).trans rfl
                have qg7_1 : w6.cell? ⟨g7, 1, none⟩ = some (.bool false) := (blk_cell BKg7.out 1).trans rfl
                have qg7_2 : w6.cell? ⟨g7, 2, none⟩ = some (.int .i64 (a)) := (blk_cell BKg7.out 2).trans rfl
                have qg7_3 : w6.cell? ⟨g7, 3, none⟩ = some (.string (⟨#[]⟩ : ByteArray)) := (blk_cell BKg7.out 3).trans rfl
                have qg8_0 : w6.cell? ⟨g8, 0, none⟩ = some (.int .u8 2) := (blk_cell BKg8.out 0).trans rfl
                have qg8_1 : w6.cell? ⟨g8, 1, none⟩ = some (.bool false) := (blk_cell BKg8.out 1).trans rfl
                have qg8_2 : w6.cell? ⟨g8, 2, none⟩ = some (.int .i64 (b)) := (blk_cell BKg8.out 2).trans rfl
                have qg8_3 : w6.cell? ⟨g8, 3, none⟩ = some (.string (⟨#[]⟩ : ByteArray)) := (blk_cell BKg8.out 3).trans rfl
                have qg13_0 : w6.cell? ⟨g13, 0, none⟩ = some (.int .u8 2) := (blk_cell BKg13.out 0).trans rfl
                have qg13_1 : w6.cell? ⟨g13, 1, none⟩ = some (.bool false) := (blk_cell BKg13.out 1).trans rfl
                have qg13_2 : w6.cell? ⟨g13, 2, none⟩ = some (.int .i64 (Int.tdiv a b)) := (blk_cell BKg13.out 2).trans rfl
                have qg13_3 : w6.cell? ⟨g13, 3, none⟩ = some (.string (⟨#[]⟩ : ByteArray)) := (blk_cell BKg13.out 3).trans rfl
                have qg14_0 : w6.cell? ⟨g14, 0, none⟩ = some (.int .u8 2) := (blk_cell BKg14.out 0).trans rfl
                have qg14_1 : w6.cell? ⟨g14, 1, none⟩ = some (.bool false) := (blk_cell BKg14.out 1).trans rfl
                have qg14_2 : w6.cell? ⟨g14, 2, none⟩ = some (.int .i64 (Int.tmod a b)) := (blk_cell BKg14.out 2).trans rfl
                have qg14_3 : w6.cell? ⟨g14, 3, none⟩ = some (.string (⟨#[]⟩ : ByteArray)) := (blk_cell BKg14.out 3).trans rfl
                go_wp2_with (fail)
                refine (consts_Binary.calls 5 34 2 false (Int.tdiv a b) ⟨#[]⟩ 2 false (b) ⟨#[]⟩ (2) (false) ((Int.tdiv a b * b)) ((⟨#[]⟩ : ByteArray)) (0) _ (Q.binN 34 (Int.tdiv a b) b (by decide) rfl HDI.out HBB.out _ (Q.whole_ok HA.out HBB.out HQ.out.1)) (SG.grow HS.out HB.out)).mono ?_
                rintro e wc ⟨rfl, hb⟩
                clear qg7_0 qg7_1 qg7_2 qg7_3 qg8_0 qg8_1 qg8_2 qg8_3 qg13_0 qg13_1 qg13_2 qg13_3 qg14_0 qg14_1 qg14_2 qg14_3
                have n0_ := Aside0.mk (below_step HB.out hb)
                clear HB
                have HB := n0_
                clear n0_
                have n_ := Aside0.mk (blk_below BKg7.out hb)
                clear BKg7
                have BKg7 := n_
                clear n_
                have n_ := Aside0.mk (blk_below BKg8.out hb)
                clear BKg8
                have BKg8 := n_
                clear n_
                have n_ := Aside0.mk (blk_below BKg13.out hb)
                clear BKg13
                have BKg13 := n_
                clear n_
                have n_ := Aside0.mk (blk_below BKg14.out hb)
                clear BKg14
                have BKg14 := n_
                clear n_
                clear hb
                go_upto_region 14 with (first
                  | ((with_reducible refine gate_dst (N := 16) rfl ?_); refine box_event ?hgg16 (N := 16) ?hdg16 (cs := #[.int .u8 0, .bool false, .int .i64 0, .string (⟨#[]⟩ : ByteArray)]) (t := 25) ?hrg16 ?_; (case hdg16 => rfl); (case hgg16 => rfl); (case hrg16 => first | (go_simp; done) | (go_simp; rfl)); intro g16 hg wb hbox hb; have hs0 : wb.cell? ⟨g16, 0, none⟩ = some (.int .u8 0) := (blk_cell hbox 0).trans rfl; have hf0 := blk_frozen hbox 0; have hs1 : wb.cell? ⟨g16, 1, none⟩ = some (.bool false) := (blk_cell hbox 1).trans rfl; have hf1 := blk_frozen hbox 1; have hs2 : wb.cell? ⟨g16, 2, none⟩ = some (.int .i64 0) := (blk_cell hbox 2).trans rfl; have hf2 := blk_frozen hbox 2; have hs3 : wb.cell? ⟨g16, 3, none⟩ = some (.string (⟨#[]⟩ : ByteArray)) := (blk_cell hbox 3).trans rfl; have hf3 := blk_frozen hbox 3; have n0_ := Aside0.mk (below_step HB.out hb); have NB := Aside0.mk hbox; have GEb := Aside0.mk (show w.heap.size ≤ g16 by rw [hg]; exact HB.out.size); have n_BKg7 := Aside0.mk (blk_below BKg7.out hb); have n_BKg8 := Aside0.mk (blk_below BKg8.out hb); have n_BKg13 := Aside0.mk (blk_below BKg13.out hb); have n_BKg14 := Aside0.mk (blk_below BKg14.out hb); have NEBKg7 := Aside0.mk (show g7 ≠ g16 by rw [hg]; exact Nat.ne_of_lt (blk_lt BKg7.out)); have NEBKg8 := Aside0.mk (show g8 ≠ g16 by rw [hg]; exact Nat.ne_of_lt (blk_lt BKg8.out)); have NEBKg13 := Aside0.mk (show g13 ≠ g16 by rw [hg]; exact Nat.ne_of_lt (blk_lt BKg13.out)); have NEBKg14 := Aside0.mk (show g14 ≠ g16 by rw [hg]; exact Nat.ne_of_lt (blk_lt BKg14.out)); clear HB; have HB := n0_; clear n0_; clear BKg7; have BKg7 := n_BKg7; clear n_BKg7; clear BKg8; have BKg8 := n_BKg8; clear n_BKg8; clear BKg13; have BKg13 := n_BKg13; clear n_BKg13; clear BKg14; have BKg14 := n_BKg14; clear n_BKg14; clear hb hbox hg))
                obtain ⟨st1, st2, st3⟩ := box4 (.int .u8 2) (.bool false) (.int .i64 (Int.tdiv a b * b)) (.string (⟨#[]⟩ : ByteArray)) NB.out
                have nb_ := Aside0.mk (st3 w GEb.out HB.out)
                have n_g7 := Aside0.mk ((st2 g7 (fun e => NEBKg7.out e)).trans BKg7.out)
                have n_g8 := Aside0.mk ((st2 g8 (fun e => NEBKg8.out e)).trans BKg8.out)
                have n_g13 := Aside0.mk ((st2 g13 (fun e => NEBKg13.out e)).trans BKg13.out)
                have n_g14 := Aside0.mk ((st2 g14 (fun e => NEBKg14.out e)).trans BKg14.out)
                have ng_ := Aside0.mk st1
                clear st1 st2 st3 NB hs0 hf0 hs1 hf1 hs2 hf2 hs3 hf3 HB
                clear BKg7
                clear BKg8
                clear BKg13
                clear BKg14
                generalize ((((wb.setCell ⟨g16, 0, none⟩ (.int .u8 2)).setCell ⟨g16, 1, none⟩ (.bool false)).setCell ⟨g16, 2, none⟩ (.int .i64 (Int.tdiv a b * b))).setCell ⟨g16, 3, none⟩ (.string (⟨#[]⟩ : ByteArray))) = w7 at *
                have HB := nb_
                have BKg16 := ng_
                have GEg16 := GEb
                clear nb_ ng_ GEb
                have BKg7 := n_g7
                clear n_g7 NEBKg7
                have BKg8 := n_g8
                clear n_g8 NEBKg8
                have BKg13 := n_g13
                clear n_g13 NEBKg13
                have BKg14 := n_g14
                clear n_g14 NEBKg14
                have qg7_0 : w7.cell? ⟨g7, 0, none⟩ = some (.int .u8 2) := (blk_cell BKg7.out 0).trans rfl
                have qg7_1 : w7.cell? ⟨g7, 1, none⟩ = some (.bool false) := (blk_cell BKg7.out 1).trans rfl
                have qg7_2 : w7.cell? ⟨g7, 2, none⟩ = some (.int .i64 (a)) := (blk_cell BKg7.out 2).trans rfl
                have qg7_3 : w7.cell? ⟨g7, 3, none⟩ = some (.string (⟨#[]⟩ : ByteArray)) := (blk_cell BKg7.out 3).trans rfl
                have qg8_0 : w7.cell? ⟨g8, 0, none⟩ = some (.int .u8 2) := (blk_cell BKg8.out 0).trans rfl
                have qg8_1 : w7.cell? ⟨g8, 1, none⟩ = some (.bool false) := (blk_cell BKg8.out 1).trans rfl
                have qg8_2 : w7.cell? ⟨g8, 2, none⟩ = some (.int .i64 (b)) := (blk_cell BKg8.out 2).trans rfl
                have qg8_3 : w7.cell? ⟨g8, 3, none⟩ = some (.string (⟨#[]⟩ : ByteArray)) := (blk_cell BKg8.out 3).trans rfl
                have qg14_0 : w7.cell? ⟨g14, 0, none⟩ = some (.int .u8 2) := (blk_cell BKg14.out 0).trans rfl
                have qg14_1 : w7.cell? ⟨g14, 1, none⟩ = some (.bool false) := (blk_cell BKg14.out 1).trans rfl
                have qg14_2 : w7.cell? ⟨g14, 2, none⟩ = some (.int .i64 (Int.tmod a b)) := (blk_cell BKg14.out 2).trans rfl
                have qg14_3 : w7.cell? ⟨g14, 3, none⟩ = some (.string (⟨#[]⟩ : ByteArray)) := (blk_cell BKg14.out 3).trans rfl
                have qg16_0 : w7.cell? ⟨g16, 0, none⟩ = some (.int .u8 2) := (blk_cell BKg16.out 0).trans rfl
                have qg16_1 : w7.cell? ⟨g16, 1, none⟩ = some (.bool false) := (blk_cell BKg16.out 1).trans rfl
                have qg16_2 : w7.cell? ⟨g16, 2, none⟩ = some (.int .i64 (Int.tdiv a b * b)) := (blk_cell BKg16.out 2).trans rfl
                have qg16_3 : w7.cell? ⟨g16, 3, none⟩ = some (.string (⟨#[]⟩ : ByteArray)) := (blk_cell BKg16.out 3).trans rfl
                go_wp2_with (fail)
                refine (consts_Binary.calls 5 32 2 false (Int.tdiv a b * b) ⟨#[]⟩ 2 false (Int.tmod a b) ⟨#[]⟩ (2) (false) ((a)) ((⟨#[]⟩ : ByteArray)) (0) _ (Q.binN 32 (Int.tdiv a b * b) (Int.tmod a b) (by decide) rfl (Q.whole_in HA.out HBB.out HQ.out.1) (Q.mod_in HA.out HQ.out.1) _ (Q.all_ok HA.out)) (SG.grow HS.out HB.out)).mono ?_
                rintro e wc ⟨rfl, hb⟩
                clear qg7_0 qg7_1 qg7_2 qg7_3 qg8_0 qg8_1 qg8_2 qg8_3 qg14_0 qg14_1 qg14_2 qg14_3 qg16_0 qg16_1 qg16_2 qg16_3
                have n0_ := Aside0.mk (below_step HB.out hb)
                clear HB
                have HB := n0_
                clear n0_
                have n_ := Aside0.mk (blk_below BKg7.out hb)
                clear BKg7
                have BKg7 := n_
                clear n_
                have n_ := Aside0.mk (blk_below BKg8.out hb)
                clear BKg8
                have BKg8 := n_
                clear n_
                have n_ := Aside0.mk (blk_below BKg14.out hb)
                clear BKg14
                have BKg14 := n_
                clear n_
                have n_ := Aside0.mk (blk_below BKg16.out hb)
                clear BKg16
                have BKg16 := n_
                clear n_
                clear hb
                go_upto_region 15 with (first
                  | ((with_reducible refine gate_dst (N := 18) rfl ?_); refine box_event ?hgg18 (N := 18) ?hdg18 (cs := #[.int .u8 0, .bool false, .int .i64 0, .string (⟨#[]⟩ : ByteArray)]) (t := 25) ?hrg18 ?_; (case hdg18 => rfl); (case hgg18 => rfl); (case hrg18 => first | (go_simp; done) | (go_simp; rfl)); intro g18 hg wb hbox hb; have hs0 : wb.cell? ⟨g18, 0, none⟩ = some (.int .u8 0) := (blk_cell hbox 0).trans rfl; have hf0 := blk_frozen hbox 0; have hs1 : wb.cell? ⟨g18, 1, none⟩ = some (.bool false) := (blk_cell hbox 1).trans rfl; have hf1 := blk_frozen hbox 1; have hs2 : wb.cell? ⟨g18, 2, none⟩ = some (.int .i64 0) := (blk_cell hbox 2).trans rfl; have hf2 := blk_frozen hbox 2; have hs3 : wb.cell? ⟨g18, 3, none⟩ = some (.string (⟨#[]⟩ : ByteArray)) := (blk_cell hbox 3).trans rfl; have hf3 := blk_frozen hbox 3; have n0_ := Aside0.mk (below_step HB.out hb); have NB := Aside0.mk hbox; have GEb := Aside0.mk (show w.heap.size ≤ g18 by rw [hg]; exact HB.out.size); have n_BKg7 := Aside0.mk (blk_below BKg7.out hb); have n_BKg8 := Aside0.mk (blk_below BKg8.out hb); have n_BKg14 := Aside0.mk (blk_below BKg14.out hb); have n_BKg16 := Aside0.mk (blk_below BKg16.out hb); have NEBKg7 := Aside0.mk (show g7 ≠ g18 by rw [hg]; exact Nat.ne_of_lt (blk_lt BKg7.out)); have NEBKg8 := Aside0.mk (show g8 ≠ g18 by rw [hg]; exact Nat.ne_of_lt (blk_lt BKg8.out)); have NEBKg14 := Aside0.mk (show g14 ≠ g18 by rw [hg]; exact Nat.ne_of_lt (blk_lt BKg14.out)); have NEBKg16 := Aside0.mk (show g16 ≠ g18 by rw [hg]; exact Nat.ne_of_lt (blk_lt BKg16.out)); clear HB; have HB := n0_; clear n0_; clear BKg7; have BKg7 := n_BKg7; clear n_BKg7; clear BKg8; have BKg8 := n_BKg8; clear n_BKg8; clear BKg14; have BKg14 := n_BKg14; clear n_BKg14; clear BKg16; have BKg16 := n_BKg16; clear n_BKg16; clear hb hbox hg))
                obtain ⟨st1, st2, st3⟩ := box4 (.int .u8 2) (.bool false) (.int .i64 (a)) (.string (⟨#[]⟩ : ByteArray)) NB.out
                have nb_ := Aside0.mk (st3 w GEb.out HB.out)
                have n_g7 := Aside0.mk ((st2 g7 (fun e => NEBKg7.out e)).trans BKg7.out)
                have n_g8 := Aside0.mk ((st2 g8 (fun e => NEBKg8.out e)).trans BKg8.out)
                have n_g14 := Aside0.mk ((st2 g14 (fun e => NEBKg14.out e)).trans BKg14.out)
                have n_g16 := Aside0.mk ((st2 g16 (fun e => NEBKg16.out e)).trans BKg16.out)
                have ng_ := Aside0.mk st1
                clear st1 st2 st3 NB hs0 hf0 hs1 hf1 hs2 hf2 hs3 hf3 HB
                clear BKg7
                clear BKg8
                clear BKg14
                clear BKg16
                generalize ((((wb.setCell ⟨g18, 0, none⟩ (.int .u8 2)).setCell ⟨g18, 1, none⟩ (.bool false)).setCell ⟨g18, 2, none⟩ (.int .i64 (a))).setCell ⟨g18, 3, none⟩ (.string (⟨#[]⟩ : ByteArray))) = w8 at *
                have HB := nb_
                have BKg18 := ng_
                have GEg18 := GEb
                clear nb_ ng_ GEb
                have BKg7 := n_g7
                clear n_g7 NEBKg7
                have BKg8 := n_g8
                clear n_g8 NEBKg8
                have BKg14 := n_g14
                clear n_g14 NEBKg14
                have BKg16 := n_g16
                clear n_g16 NEBKg16
                have qg18_0 : w8.cell? ⟨g18, 0, none⟩ = some (.int .u8 2) := (blk_cell BKg18.out 0).trans rfl
                have qg18_1 : w8.cell? ⟨g18, 1, none⟩ = some (.bool false) := (blk_cell BKg18.out 1).trans rfl
                have qg18_2 : w8.cell? ⟨g18, 2, none⟩ = some (.int .i64 (a)) := (blk_cell BKg18.out 2).trans rfl
                have qg18_3 : w8.cell? ⟨g18, 3, none⟩ = some (.string (⟨#[]⟩ : ByteArray)) := (blk_cell BKg18.out 3).trans rfl
                have qg7_0 : w8.cell? ⟨g7, 0, none⟩ = some (.int .u8 2) := (blk_cell BKg7.out 0).trans rfl
                have qg7_1 : w8.cell? ⟨g7, 1, none⟩ = some (.bool false) := (blk_cell BKg7.out 1).trans rfl
                have qg7_2 : w8.cell? ⟨g7, 2, none⟩ = some (.int .i64 (a)) := (blk_cell BKg7.out 2).trans rfl
                have qg7_3 : w8.cell? ⟨g7, 3, none⟩ = some (.string (⟨#[]⟩ : ByteArray)) := (blk_cell BKg7.out 3).trans rfl
                go_wp2
                go_meet
                case rel => exact ⟨BKg7, BKg8, HB⟩
          case rest =>
            as_aux_lemma =>
              obtain ⟨BKg7, BKg8, HB⟩ := hcut
              go_upto_region 17 with (fail)
              obtain ⟨⟨v1, v2, v3, v4, v5⟩, hV⟩ : ∃ V, Q.numV 40 a n = V := ⟨_, rfl⟩
              have HV := Aside0.mk hV
              clear hV
              go_cut [10, 20] (fun v10_ v20_ wc => ∃ g20 : Nat, v20_ = .pointer (some ⟨g20, 0, none⟩) ∧ v10_ = .int .i64 v5 ∧ Aside0 (w.heap.size ≤ g20) ∧ Aside0 (wc.heap[g20]? = some (.cells #[.int .u8 v1, .bool v2, .int .i64 v3, .string v4] 25 (0, 0))) ∧ Aside0 (wc.heap[g7]? = some (.cells #[.int .u8 2, .bool false, .int .i64 (a), .string (⟨#[]⟩ : ByteArray)] 25 (0, 0))) ∧ Aside0 (wc.heap[g8]? = some (.cells #[.int .u8 2, .bool false, .int .i64 (b), .string (⟨#[]⟩ : ByteArray)] 25 (0, 0))) ∧ Aside0 (Below w.heap.size w wc))
              case first =>
                as_aux_lemma =>
                  have hP : PX w [(g7, .cells #[.int .u8 2, .bool false, .int .i64 (a), .string (⟨#[]⟩ : ByteArray)] 25 (0, 0)), (g8, .cells #[.int .u8 2, .bool false, .int .i64 (b), .string (⟨#[]⟩ : ByteArray)] 25 (0, 0))] wc := ⟨PX.mk2 BKg7.out BKg8.out, HB.out⟩
                  refine start_ (n := 10) (S := PX w [(g7, .cells #[.int .u8 2, .bool false, .int .i64 (a), .string (⟨#[]⟩ : ByteArray)] 25 (0, 0)), (g8, .cells #[.int .u8 2, .bool false, .int .i64 (b), .string (⟨#[]⟩ : ByteArray)] 25 (0, 0))]) (ds := []) #[false, false, false, false, false, false, false, false, false, false] (by kernel_rfl) rfl rfl (hP.below (below_drew (Below.refl _ _))) (fun hHeld => ?_)
                  refine with_tabW arith.tab17 arith.bits17 (fun HT_ HW_ => ?_)
                  generalize wc.drew = wg at hHeld ⊢
                  clear hP
                  refine pure_ (i := 1) (N := some 112) (v := ?_) (a' := ?_) #[false, true, false, false, false, false, false, false, false, false] rfl rfl (any_of HT_.out (by kernel_rfl)) (fun _ _ _ h => h) (Or.inl ⟨by rfl, ?_⟩) ?_ ?_
                  rotate_left
                  · intro w'
                    go_simp
                    with_reducible rfl
                  rotate_left
                  · simp only [Act.put, List.setIfInBounds_toArray, List.set_cons_zero, List.set_cons_succ, i64_w, i32_w]
                    rfl
                  refine take_ (i := 0) (N := some 111) (v := ?_) (a' := ?_) #[true, true, false, false, false, false, false, false, false, false] rfl rfl (take_ofW HT_.out HW_.out (by kernel_rfl)) (fun _ _ _ h => h) (Or.inl ⟨by rfl, ?_⟩) hHeld ?_ ?_
                  rotate_left
                  · intro w' hS
                    have q0 : w'.cell? ⟨g7, 0, none⟩ = some (.int .u8 2) := (blk_cell (hS.1 (g7, .cells #[.int .u8 2, .bool false, .int .i64 (a), .string (⟨#[]⟩ : ByteArray)] 25 (0, 0)) (by simp)) 0).trans rfl
                    have q1 : w'.cell? ⟨g7, 1, none⟩ = some (.bool false) := (blk_cell (hS.1 (g7, .cells #[.int .u8 2, .bool false, .int .i64 (a), .string (⟨#[]⟩ : ByteArray)] 25 (0, 0)) (by simp)) 1).trans rfl
                    have q2 : w'.cell? ⟨g7, 2, none⟩ = some (.int .i64 (a)) := (blk_cell (hS.1 (g7, .cells #[.int .u8 2, .bool false, .int .i64 (a), .string (⟨#[]⟩ : ByteArray)] 25 (0, 0)) (by simp)) 2).trans rfl
                    have q3 : w'.cell? ⟨g7, 3, none⟩ = some (.string (⟨#[]⟩ : ByteArray)) := (blk_cell (hS.1 (g7, .cells #[.int .u8 2, .bool false, .int .i64 (a), .string (⟨#[]⟩ : ByteArray)] 25 (0, 0)) (by simp)) 3).trans rfl
                    clear hS
                    go_simp
                    with_reducible rfl
                  rotate_left
                  · simp only [Act.put, List.setIfInBounds_toArray, List.set_cons_zero, List.set_cons_succ, i64_w, i32_w]
                    rfl
                  refine join_ (σ := Nat) 2 #[true, true, true, true, true, true, true, true, false, false] (fun s_ => [(113, .agg #[.int .u8 2, .bool false, .int .i64 (n), .string (⟨#[]⟩ : ByteArray)]), (114, .tuple #[.agg #[.int .u8 v1, .bool v2, .int .i64 v3, .string v4], .int .i64 (v5)]), (20, .pointer (some ⟨s_, 0, none⟩)), (110, .tuple #[.agg #[.int .u8 v1, .bool v2, .int .i64 v3, .string v4], .int .i64 (v5)]), (115, .agg #[.int .u8 v1, .bool v2, .int .i64 v3, .string v4]), (116, .int .i64 (v5))]) (fun s_ w' => PX w [(g7, .cells #[.int .u8 2, .bool false, .int .i64 (a), .string (⟨#[]⟩ : ByteArray)] 25 (0, 0)), (g8, .cells #[.int .u8 2, .bool false, .int .i64 (b), .string (⟨#[]⟩ : ByteArray)] 25 (0, 0))] w' ∧ (w'.heap[s_]? = some (.cells #[.int .u8 0, .bool false, .int .i64 0, .string (⟨#[]⟩ : ByteArray)] 25 (0, 0))) ∧ (w.heap.size ≤ s_) ∧ (∀ p ∈ ([(g7, .cells #[.int .u8 2, .bool false, .int .i64 (a), .string (⟨#[]⟩ : ByteArray)] 25 (0, 0)), (g8, .cells #[.int .u8 2, .bool false, .int .i64 (b), .string (⟨#[]⟩ : ByteArray)] 25 (0, 0))] : List (Nat × Obj)), p.1 ≠ s_)) ?_ ?_
                  rotate_left
                  · intro hCont
                    refine two_ (i := 2) (j := 7) (Ni := some 113) (Nj := some 20) #[true, true, true, false, false, false, false, false, false, false] #[true, true, false, false, false, false, false, true, false, false] rfl rfl rfl rfl (two_of HT_.out (by kernel_rfl)) (by decide) (by decide) (fun K hK => ?_) (fun K hK => ?_)
                    · skip
                      refine goes_ Tryd.func10 (by kernel_rfl) rfl #[.int .i64 (n)] (by rfl) rfl rfl (by (try simp only [List.map_toArray, List.map_cons, List.map_nil]); first | done | rfl) ?_
                      refine (monikerlaw8_num.calls (n) 2 false (n) ⟨#[]⟩ _ rfl).mono ?_
                      rintro e wk ⟨rfl, hb⟩
                      refine ⟨_, rfl, ?_⟩
                      have hH := hHeld.below hb
                      clear hHeld hb
                      refine hK.out _ _ hH (fun hHeld => ?_)
                      clear hH
                      clear hK K
                      refine norm_ (a' := ?_) ?_ ?_
                      rotate_left
                      · show Act.put _ (some 113) _ = _
                        simp only [Act.put, List.setIfInBounds_toArray, List.set_cons_zero, List.set_cons_succ, i64_w, i32_w]
                        rfl
                      refine two_ (i := 3) (j := 7) (Ni := some 114) (Nj := some 20) #[true, true, true, true, false, false, false, false, false, false] #[true, true, true, false, false, false, false, true, false, false] rfl rfl rfl rfl (two_of HT_.out (by kernel_rfl)) (by decide) (by decide) (fun K hK => ?_) (fun K hK => ?_)
                      · skip
                        refine goes_ Tryd.func8 (by kernel_rfl) rfl #[.int .u8 40, .agg #[.int .u8 2, .bool false, .int .i64 (a), .string (⟨#[]⟩ : ByteArray)], .agg #[.int .u8 2, .bool false, .int .i64 (n), .string (⟨#[]⟩ : ByteArray)]] (by rfl) rfl rfl (by (try simp only [List.map_toArray, List.map_cons, List.map_nil]); first | done | rfl) ?_
                        refine (consts_Binary.calls 5 40 2 false a ⟨#[]⟩ 2 false n ⟨#[]⟩ v1 v2 v3 v4 v5 _ (Q.binN 40 a n (by decide) rfl HA.out HN.out _ HV.out) (SG.grow HS.out hHeld.2)).mono ?_
                        rintro e wk ⟨rfl, hb⟩
                        refine ⟨_, rfl, ?_⟩
                        have hH := hHeld.below hb
                        clear hHeld hb
                        refine hK.out _ _ hH (fun hHeld => ?_)
                        clear hH
                        clear hK K
                        refine norm_ (a' := ?_) ?_ ?_
                        rotate_left
                        · show Act.put _ (some 114) _ = _
                          simp only [Act.put, List.setIfInBounds_toArray, List.set_cons_zero, List.set_cons_succ, i64_w, i32_w]
                          rfl
                        refine pure_ (i := 4) (N := some 110) (v := ?_) (a' := ?_) #[true, true, true, true, true, false, false, false, false, false] rfl rfl (any_of HT_.out (by kernel_rfl)) (fun _ _ _ h => h) (Or.inl ⟨by rfl, ?_⟩) ?_ ?_
                        rotate_left
                        · intro w'
                          go_simp
                          with_reducible rfl
                        rotate_left
                        · simp only [Act.put, List.setIfInBounds_toArray, List.set_cons_zero, List.set_cons_succ, i64_w, i32_w]
                          rfl
                        refine pure_ (i := 5) (N := some 115) (v := ?_) (a' := ?_) #[true, true, true, true, true, true, false, false, false, false] rfl rfl (any_of HT_.out (by kernel_rfl)) (fun _ _ _ h => h) (Or.inl ⟨by rfl, ?_⟩) ?_ ?_
                        rotate_left
                        · intro w'
                          go_simp
                          with_reducible rfl
                        rotate_left
                        · simp only [Act.put, List.setIfInBounds_toArray, List.set_cons_zero, List.set_cons_succ, i64_w, i32_w]
                          rfl
                        refine pure_ (i := 6) (N := some 116) (v := ?_) (a' := ?_) #[true, true, true, true, true, true, true, false, false, false] rfl rfl (any_of HT_.out (by kernel_rfl)) (fun _ _ _ h => h) (Or.inl ⟨by rfl, ?_⟩) ?_ ?_
                        rotate_left
                        · intro w'
                          go_simp
                          with_reducible rfl
                        rotate_left
                        · simp only [Act.put, List.setIfInBounds_toArray, List.set_cons_zero, List.set_cons_succ, i64_w, i32_w]
                          rfl
                        refine one_ (i := 7) (N := some 20) #[true, true, true, true, true, true, true, true, false, false] rfl rfl (one_of HT_.out (by kernel_rfl)) (by decide) (fun K hK => ?_)
                        refine box_step ?hg (N := 20) ?hd (cs := #[.int .u8 0, .bool false, .int .i64 0, .string (⟨#[]⟩ : ByteArray)]) (t := 25) ?hr ?_; (case hd => rfl); (case hg => rfl); (case hr => first | (go_simp; done) | (go_simp; rfl))
                        intro gN hg wk hbox hb
                        have hge : w.heap.size ≤ gN := by rw [hg]; exact hHeld.2.size
                        have hne := hHeld.fresh hg
                        have hz := hbox
                        have hH := hHeld.below hb
                        clear hHeld hb hbox hg
                        refine hK.out _ _ hH (fun hHeld => ?_)
                        clear hH
                        clear hK K
                        refine norm_ (a' := ?_) ?_ ?_
                        rotate_left
                        · show Act.put _ (some 20) _ = _
                          simp only [Act.put, List.setIfInBounds_toArray, List.set_cons_zero, List.set_cons_succ, i64_w, i32_w]
                          rfl
                        exact norm_ (by simp only [putAll, Act.put, List.setIfInBounds_toArray, List.set_cons_zero, List.set_cons_succ]) (hCont gN _ ⟨hHeld, hz, hge, hne⟩)
                      · skip
                        refine box_step ?hg (N := 20) ?hd (cs := #[.int .u8 0, .bool false, .int .i64 0, .string (⟨#[]⟩ : ByteArray)]) (t := 25) ?hr ?_; (case hd => rfl); (case hg => rfl); (case hr => first | (go_simp; done) | (go_simp; rfl))
                        intro gN hg wk hbox hb
                        have hge : w.heap.size ≤ gN := by rw [hg]; exact hHeld.2.size
                        have hne := hHeld.fresh hg
                        have hz := hbox
                        have hH := hHeld.below hb
                        clear hHeld hb hbox hg
                        refine hK.out _ _ hH (fun hHeld => ?_)
                        clear hH
                        clear hK K
                        refine norm_ (a' := ?_) ?_ ?_
                        rotate_left
                        · show Act.put _ (some 20) _ = _
                          simp only [Act.put, List.setIfInBounds_toArray, List.set_cons_zero, List.set_cons_succ, i64_w, i32_w]
                          rfl
                        refine one_ (i := 3) (N := some 114) #[true, true, true, true, false, false, false, true, false, false] rfl rfl (one_of HT_.out (by kernel_rfl)) (by decide) (fun K hK => ?_)
                        refine goes_ Tryd.func8 (by kernel_rfl) rfl #[.int .u8 40, .agg #[.int .u8 2, .bool false, .int .i64 (a), .string (⟨#[]⟩ : ByteArray)], .agg #[.int .u8 2, .bool false, .int .i64 (n), .string (⟨#[]⟩ : ByteArray)]] (by rfl) rfl rfl (by (try simp only [List.map_toArray, List.map_cons, List.map_nil]); first | done | rfl) ?_
                        refine (consts_Binary.calls 5 40 2 false a ⟨#[]⟩ 2 false n ⟨#[]⟩ v1 v2 v3 v4 v5 _ (Q.binN 40 a n (by decide) rfl HA.out HN.out _ HV.out) (SG.grow HS.out hHeld.2)).mono ?_
                        rintro e wk ⟨rfl, hb⟩
                        refine ⟨_, rfl, ?_⟩
                        have hH := hHeld.below hb
                        have hz' := blk_below hz hb
                        clear hz
                        have hz := hz'
                        clear hz'
                        clear hHeld hb
                        refine hK.out _ _ hH (fun hHeld => ?_)
                        clear hH
                        clear hK K
                        refine norm_ (a' := ?_) ?_ ?_
                        rotate_left
                        · show Act.put _ (some 114) _ = _
                          simp only [Act.put, List.setIfInBounds_toArray, List.set_cons_zero, List.set_cons_succ, i64_w, i32_w]
                          rfl
                        refine pure_ (i := 4) (N := some 110) (v := ?_) (a' := ?_) #[true, true, true, true, true, false, false, true, false, false] rfl rfl (any_of HT_.out (by kernel_rfl)) (fun _ _ _ h => h) (Or.inl ⟨by rfl, ?_⟩) ?_ ?_
                        rotate_left
                        · intro w'
                          go_simp
                          with_reducible rfl
                        rotate_left
                        · simp only [Act.put, List.setIfInBounds_toArray, List.set_cons_zero, List.set_cons_succ, i64_w, i32_w]
                          rfl
                        refine pure_ (i := 5) (N := some 115) (v := ?_) (a' := ?_) #[true, true, true, true, true, true, false, true, false, false] rfl rfl (any_of HT_.out (by kernel_rfl)) (fun _ _ _ h => h) (Or.inl ⟨by rfl, ?_⟩) ?_ ?_
                        rotate_left
                        · intro w'
                          go_simp
                          with_reducible rfl
                        rotate_left
                        · simp only [Act.put, List.setIfInBounds_toArray, List.set_cons_zero, List.set_cons_succ, i64_w, i32_w]
                          rfl
                        refine pure_ (i := 6) (N := some 116) (v := ?_) (a' := ?_) #[true, true, true, true, true, true, true, true, false, false] rfl rfl (any_of HT_.out (by kernel_rfl)) (fun _ _ _ h => h) (Or.inl ⟨by rfl, ?_⟩) ?_ ?_
                        rotate_left
                        · intro w'
                          go_simp
                          with_reducible rfl
                        rotate_left
                        · simp only [Act.put, List.setIfInBounds_toArray, List.set_cons_zero, List.set_cons_succ, i64_w, i32_w]
                          rfl
                        exact norm_ (by simp only [putAll, Act.put, List.setIfInBounds_toArray, List.set_cons_zero, List.set_cons_succ]) (hCont gN _ ⟨hHeld, hz, hge, hne⟩)
                    · skip
                      refine box_step ?hg (N := 20) ?hd (cs := #[.int .u8 0, .bool false, .int .i64 0, .string (⟨#[]⟩ : ByteArray)]) (t := 25) ?hr ?_; (case hd => rfl); (case hg => rfl); (case hr => first | (go_simp; done) | (go_simp; rfl))
                      intro gN hg wk hbox hb
                      have hge : w.heap.size ≤ gN := by rw [hg]; exact hHeld.2.size
                      have hne := hHeld.fresh hg
                      have hz := hbox
                      have hH := hHeld.below hb
                      clear hHeld hb hbox hg
                      refine hK.out _ _ hH (fun hHeld => ?_)
                      clear hH
                      clear hK K
                      refine norm_ (a' := ?_) ?_ ?_
                      rotate_left
                      · show Act.put _ (some 20) _ = _
                        simp only [Act.put, List.setIfInBounds_toArray, List.set_cons_zero, List.set_cons_succ, i64_w, i32_w]
                        rfl
                      refine one_ (i := 2) (N := some 113) #[true, true, true, false, false, false, false, true, false, false] rfl rfl (one_of HT_.out (by kernel_rfl)) (by decide) (fun K hK => ?_)
                      refine goes_ Tryd.func10 (by kernel_rfl) rfl #[.int .i64 (n)] (by rfl) rfl rfl (by (try simp only [List.map_toArray, List.map_cons, List.map_nil]); first | done | rfl) ?_
                      refine (monikerlaw8_num.calls (n) 2 false (n) ⟨#[]⟩ _ rfl).mono ?_
                      rintro e wk ⟨rfl, hb⟩
                      refine ⟨_, rfl, ?_⟩
                      have hH := hHeld.below hb
                      have hz' := blk_below hz hb
                      clear hz
                      have hz := hz'
                      clear hz'
                      clear hHeld hb
                      refine hK.out _ _ hH (fun hHeld => ?_)
                      clear hH
                      clear hK K
                      refine norm_ (a' := ?_) ?_ ?_
                      rotate_left
                      · show Act.put _ (some 113) _ = _
                        simp only [Act.put, List.setIfInBounds_toArray, List.set_cons_zero, List.set_cons_succ, i64_w, i32_w]
                        rfl
                      refine one_ (i := 3) (N := some 114) #[true, true, true, true, false, false, false, true, false, false] rfl rfl (one_of HT_.out (by kernel_rfl)) (by decide) (fun K hK => ?_)
                      refine goes_ Tryd.func8 (by kernel_rfl) rfl #[.int .u8 40, .agg #[.int .u8 2, .bool false, .int .i64 (a), .string (⟨#[]⟩ : ByteArray)], .agg #[.int .u8 2, .bool false, .int .i64 (n), .string (⟨#[]⟩ : ByteArray)]] (by rfl) rfl rfl (by (try simp only [List.map_toArray, List.map_cons, List.map_nil]); first | done | rfl) ?_
                      refine (consts_Binary.calls 5 40 2 false a ⟨#[]⟩ 2 false n ⟨#[]⟩ v1 v2 v3 v4 v5 _ (Q.binN 40 a n (by decide) rfl HA.out HN.out _ HV.out) (SG.grow HS.out hHeld.2)).mono ?_
                      rintro e wk ⟨rfl, hb⟩
                      refine ⟨_, rfl, ?_⟩
                      have hH := hHeld.below hb
                      have hz' := blk_below hz hb
                      clear hz
                      have hz := hz'
                      clear hz'
                      clear hHeld hb
                      refine hK.out _ _ hH (fun hHeld => ?_)
                      clear hH
                      clear hK K
                      refine norm_ (a' := ?_) ?_ ?_
                      rotate_left
                      · show Act.put _ (some 114) _ = _
                        simp only [Act.put, List.setIfInBounds_toArray, List.set_cons_zero, List.set_cons_succ, i64_w, i32_w]
                        rfl
                      refine pure_ (i := 4) (N := some 110) (v := ?_) (a' := ?_) #[true, true, true, true, true, false, false, true, false, false] rfl rfl (any_of HT_.out (by kernel_rfl)) (fun _ _ _ h => h) (Or.inl ⟨by rfl, ?_⟩) ?_ ?_
                      rotate_left
                      · intro w'
                        go_simp
                        with_reducible rfl
                      rotate_left
                      · simp only [Act.put, List.setIfInBounds_toArray, List.set_cons_zero, List.set_cons_succ, i64_w, i32_w]
                        rfl
                      refine pure_ (i := 5) (N := some 115) (v := ?_) (a' := ?_) #[true, true, true, true, true, true, false, true, false, false] rfl rfl (any_of HT_.out (by kernel_rfl)) (fun _ _ _ h => h) (Or.inl ⟨by rfl, ?_⟩) ?_ ?_
                      rotate_left
                      · intro w'
                        go_simp
                        with_reducible rfl
                      rotate_left
                      · simp only [Act.put, List.setIfInBounds_toArray, List.set_cons_zero, List.set_cons_succ, i64_w, i32_w]
                        rfl
                      refine pure_ (i := 6) (N := some 116) (v := ?_) (a' := ?_) #[true, true, true, true, true, true, true, true, false, false] rfl rfl (any_of HT_.out (by kernel_rfl)) (fun _ _ _ h => h) (Or.inl ⟨by rfl, ?_⟩) ?_ ?_
                      rotate_left
                      · intro w'
                        go_simp
                        with_reducible rfl
                      rotate_left
                      · simp only [Act.put, List.setIfInBounds_toArray, List.set_cons_zero, List.set_cons_succ, i64_w, i32_w]
                        rfl
                      exact norm_ (by simp only [putAll, Act.put, List.setIfInBounds_toArray, List.set_cons_zero, List.set_cons_succ]) (hCont gN _ ⟨hHeld, hz, hge, hne⟩)
                  rintro g20 wj ⟨hHeld, hz, hge, hne⟩
                  refine norm_ (a' := ?_) ?_ ?_
                  rotate_left
                  · simp only [putAll, Act.put, List.setIfInBounds_toArray, List.set_cons_zero, List.set_cons_succ]
                    rfl
                  refine one_ (i := 8) (N := none) #[true, true, true, true, true, true, true, true, true, false] rfl rfl (one_of HT_.out (by kernel_rfl)) (by decide) (fun K hK => ?_)
                  have hs0 : wj.cell? ⟨g20, 0, none⟩ = some (.int .u8 0) := (blk_cell hz 0).trans rfl
                  have hf0 := blk_frozen hz 0
                  have hs1 : wj.cell? ⟨g20, 1, none⟩ = some (.bool false) := (blk_cell hz 1).trans rfl
                  have hf1 := blk_frozen hz 1
                  have hs2 : wj.cell? ⟨g20, 2, none⟩ = some (.int .i64 0) := (blk_cell hz 2).trans rfl
                  have hf2 := blk_frozen hz 2
                  have hs3 : wj.cell? ⟨g20, 3, none⟩ = some (.string (⟨#[]⟩ : ByteArray)) := (blk_cell hz 3).trans rfl
                  have hf3 := blk_frozen hz 3
                  obtain ⟨st1, st2, st3⟩ := box4 (.int .u8 v1) (.bool v2) (.int .i64 v3) (.string v4) hz
                  have hH := hHeld.far st2 (st3 w hge hHeld.2) hne
                  refine skip_ (w1 := ?_) (by rfl) rfl ?_ ?_
                  rotate_left
                  · go_simp
                    rfl
                  refine hK.out _ _ hH (fun hHeld => ?_)
                  clear hK K
                  refine pure_ (i := 9) (N := some 10) (v := ?_) (a' := ?_) #[true, true, true, true, true, true, true, true, true, true] rfl rfl (any_of HT_.out (by kernel_rfl)) (fun _ _ _ h => h) (Or.inl ⟨by rfl, ?_⟩) ?_ ?_
                  rotate_left
                  · intro w'
                    go_simp
                    with_reducible rfl
                  rotate_left
                  · simp only [Act.put, List.setIfInBounds_toArray, List.set_cons_zero, List.set_cons_succ, i64_w, i32_w]
                    rfl
                  refine done_ (done_of HT_.out (by kernel_rfl)) ?_
                  try go_wp2_with (fail)
                  go_meet
                  case rel => exact ⟨g20, rfl, rfl, Aside0.mk hge, Aside0.mk st1, Aside0.mk (hHeld.1 (g7, .cells #[.int .u8 2, .bool false, .int .i64 (a), .string (⟨#[]⟩ : ByteArray)] 25 (0, 0)) (by simp)), Aside0.mk (hHeld.1 (g8, .cells #[.int .u8 2, .bool false, .int .i64 (b), .string (⟨#[]⟩ : ByteArray)] 25 (0, 0)) (by simp)), Aside0.mk hHeld.2⟩
              case rest =>
                as_aux_lemma =>
                  obtain ⟨g20, rfl, rfl, GEg20, BKg20, BKg7, BKg8, HB⟩ := hcut
                  go_upto_region 18 with (fail)
                  go_cut [126] (fun v126_ wc => v126_ = .bool false ∧ Aside0 (wc.heap[g20]? = some (.cells #[.int .u8 v1, .bool v2, .int .i64 v3, .string v4] 25 (0, 0))) ∧ Aside0 (wc.heap[g7]? = some (.cells #[.int .u8 2, .bool false, .int .i64 (a), .string (⟨#[]⟩ : ByteArray)] 25 (0, 0))) ∧ Aside0 (wc.heap[g8]? = some (.cells #[.int .u8 2, .bool false, .int .i64 (b), .string (⟨#[]⟩ : ByteArray)] 25 (0, 0))) ∧ Aside0 (Below w.heap.size w wc))
                  case first =>
                    as_aux_lemma =>
                      have hV := HV.out
                      by_cases hn1 : (n < 0 ∨ n > 63) ∨ ¬ Q.In64 (a * 2 ^ n.toNat)
                      · rw [Q.shl_er hn1] at hV
                        clear HV
                        simp only [Q.erV, Prod.mk.injEq] at hV
                        obtain ⟨rfl, rfl, rfl, rfl, rfl⟩ := hV
                        clear hn1
                        go_wp2
                        go_meet
                        case rel => exact ⟨rfl, BKg20, BKg7, BKg8, HB⟩
                      · have hn2 : ¬ (n < 0 ∨ n > 63) := fun h => hn1 (.inl h)
                        rw [Q.shl_ok hn2 (Classical.byContradiction fun h => hn1 (.inr h))] at hV
                        clear HV
                        simp only [Q.okN, Prod.mk.injEq] at hV
                        obtain ⟨rfl, rfl, rfl, rfl, rfl⟩ := hV
                        have f1 : decide (n < 0) = false := decide_eq_false (fun h => hn2 (.inl h))
                        have f2 : decide (63 < n) = false := decide_eq_false (fun h => hn2 (.inr h))
                        clear hn1 hn2
                        go_wp2
                        go_meet
                        case rel => exact ⟨rfl, BKg20, BKg7, BKg8, HB⟩
                  case rest =>
                    as_aux_lemma =>
                      obtain ⟨rfl, BKg20, BKg7, BKg8, HB⟩ := hcut
                      go_upto_if 128 with (fail)
                      go_cut [21, 22] (fun v21_ v22_ wc => Aside0 (wc.heap[g7]? = some (.cells #[.int .u8 2, .bool false, .int .i64 (a), .string (⟨#[]⟩ : ByteArray)] 25 (0, 0))) ∧ Aside0 (wc.heap[g8]? = some (.cells #[.int .u8 2, .bool false, .int .i64 (b), .string (⟨#[]⟩ : ByteArray)] 25 (0, 0))) ∧ Aside0 (Below w.heap.size w wc))
                      case first =>
                        as_aux_lemma =>
                          have hV := HV.out
                          by_cases hn1 : (n < 0 ∨ n > 63) ∨ ¬ Q.In64 (a * 2 ^ n.toNat)
                          · rw [Q.shl_er hn1] at hV
                            clear HV
                            simp only [Q.erV, Prod.mk.injEq] at hV
                            obtain ⟨rfl, rfl, rfl, rfl, rfl⟩ := hV
                            clear hn1
                            go_wp2
                            go_meet
                            case rel => exact ⟨BKg7, BKg8, HB⟩
                          · have HN2 := Aside0.mk (show ¬ (n < 0 ∨ n > 63) from fun h => hn1 (.inl h))
                            have HPI := Aside0.mk (show Q.In64 (a * 2 ^ n.toNat) from Classical.byContradiction fun h => hn1 (.inr h))
                            rw [Q.shl_ok HN2.out HPI.out] at hV
                            clear HV
                            simp only [Q.okN, Prod.mk.injEq] at hV
                            obtain ⟨rfl, rfl, rfl, rfl, rfl⟩ := hV
                            clear hn1
                            go_upto_region 21 with (fail)
                            go_cut [21, 22] (fun v21_ v22_ wc => ∃ g21 : Nat, v21_ = .pointer (some ⟨g21, 0, none⟩) ∧ v22_ = .int .i64 0 ∧ Aside0 (wc.heap[g21]? = some (.cells #[.int .u8 2, .bool false, .int .i64 (a), .string (⟨#[]⟩ : ByteArray)] 25 (0, 0))) ∧ Aside0 (wc.heap[g7]? = some (.cells #[.int .u8 2, .bool false, .int .i64 (a), .string (⟨#[]⟩ : ByteArray)] 25 (0, 0))) ∧ Aside0 (wc.heap[g8]? = some (.cells #[.int .u8 2, .bool false, .int .i64 (b), .string (⟨#[]⟩ : ByteArray)] 25 (0, 0))) ∧ Aside0 (Below w.heap.size w wc))
                            case first =>
                              as_aux_lemma =>
                                have hP : PX w [(g20, .cells #[.int .u8 2, .bool false, .int .i64 (a * 2 ^ n.toNat), .string (⟨#[]⟩ : ByteArray)] 25 (0, 0)), (g7, .cells #[.int .u8 2, .bool false, .int .i64 (a), .string (⟨#[]⟩ : ByteArray)] 25 (0, 0)), (g8, .cells #[.int .u8 2, .bool false, .int .i64 (b), .string (⟨#[]⟩ : ByteArray)] 25 (0, 0))] wc := ⟨PX.mk3 BKg20.out BKg7.out BKg8.out, HB.out⟩
                                refine start_ (n := 10) (S := PX w [(g20, .cells #[.int .u8 2, .bool false, .int .i64 (a * 2 ^ n.toNat), .string (⟨#[]⟩ : ByteArray)] 25 (0, 0)), (g7, .cells #[.int .u8 2, .bool false, .int .i64 (a), .string (⟨#[]⟩ : ByteArray)] 25 (0, 0)), (g8, .cells #[.int .u8 2, .bool false, .int .i64 (b), .string (⟨#[]⟩ : ByteArray)] 25 (0, 0))]) (ds := []) #[false, false, false, false, false, false, false, false, false, false] (by kernel_rfl) rfl rfl (hP.below (below_drew (Below.refl _ _))) (fun hHeld => ?_)
                                refine with_tabW arith.tab21 arith.bits21 (fun HT_ HW_ => ?_)
                                generalize wc.drew = wg at hHeld ⊢
                                clear hP
                                refine pure_ (i := 1) (N := some 131) (v := ?_) (a' := ?_) #[false, true, false, false, false, false, false, false, false, false] rfl rfl (any_of HT_.out (by kernel_rfl)) (fun _ _ _ h => h) (Or.inl ⟨by rfl, ?_⟩) ?_ ?_
                                rotate_left
                                · intro w'
                                  go_simp
                                  with_reducible rfl
                                rotate_left
                                · simp only [Act.put, List.setIfInBounds_toArray, List.set_cons_zero, List.set_cons_succ, i64_w, i32_w]
                                  rfl
                                refine take_ (i := 0) (N := some 130) (v := ?_) (a' := ?_) #[true, true, false, false, false, false, false, false, false, false] rfl rfl (take_ofW HT_.out HW_.out (by kernel_rfl)) (fun _ _ _ h => h) (Or.inl ⟨by rfl, ?_⟩) hHeld ?_ ?_
                                rotate_left
                                · intro w' hS
                                  have q0 : w'.cell? ⟨g20, 0, none⟩ = some (.int .u8 2) := (blk_cell (hS.1 (g20, .cells #[.int .u8 2, .bool false, .int .i64 (a * 2 ^ n.toNat), .string (⟨#[]⟩ : ByteArray)] 25 (0, 0)) (by simp)) 0).trans rfl
                                  have q1 : w'.cell? ⟨g20, 1, none⟩ = some (.bool false) := (blk_cell (hS.1 (g20, .cells #[.int .u8 2, .bool false, .int .i64 (a * 2 ^ n.toNat), .string (⟨#[]⟩ : ByteArray)] 25 (0, 0)) (by simp)) 1).trans rfl
                                  have q2 : w'.cell? ⟨g20, 2, none⟩ = some (.int .i64 (a * 2 ^ n.toNat)) := (blk_cell (hS.1 (g20, .cells #[.int .u8 2, .bool false, .int .i64 (a * 2 ^ n.toNat), .string (⟨#[]⟩ : ByteArray)] 25 (0, 0)) (by simp)) 2).trans rfl
                                  have q3 : w'.cell? ⟨g20, 3, none⟩ = some (.string (⟨#[]⟩ : ByteArray)) := (blk_cell (hS.1 (g20, .cells #[.int .u8 2, .bool false, .int .i64 (a * 2 ^ n.toNat), .string (⟨#[]⟩ : ByteArray)] 25 (0, 0)) (by simp)) 3).trans rfl
                                  clear hS
                                  go_simp
                                  with_reducible rfl
                                rotate_left
                                · simp only [Act.put, List.setIfInBounds_toArray, List.set_cons_zero, List.set_cons_succ, i64_w, i32_w]
                                  rfl
                                refine join_ (σ := Nat) 2 #[true, true, true, true, true, true, true, true, false, false] (fun s_ => [(132, .agg #[.int .u8 2, .bool false, .int .i64 (n), .string (⟨#[]⟩ : ByteArray)]), (133, .tuple #[.agg #[.int .u8 2, .bool false, .int .i64 (a), .string (⟨#[]⟩ : ByteArray)], .int .i64 (0)]), (21, .pointer (some ⟨s_, 0, none⟩)), (129, .tuple #[.agg #[.int .u8 2, .bool false, .int .i64 (a), .string (⟨#[]⟩ : ByteArray)], .int .i64 (0)]), (134, .agg #[.int .u8 2, .bool false, .int .i64 (a), .string (⟨#[]⟩ : ByteArray)]), (135, .int .i64 (0))]) (fun s_ w' => PX w [(g20, .cells #[.int .u8 2, .bool false, .int .i64 (a * 2 ^ n.toNat), .string (⟨#[]⟩ : ByteArray)] 25 (0, 0)), (g7, .cells #[.int .u8 2, .bool false, .int .i64 (a), .string (⟨#[]⟩ : ByteArray)] 25 (0, 0)), (g8, .cells #[.int .u8 2, .bool false, .int .i64 (b), .string (⟨#[]⟩ : ByteArray)] 25 (0, 0))] w' ∧ (w'.heap[s_]? = some (.cells #[.int .u8 0, .bool false, .int .i64 0, .string (⟨#[]⟩ : ByteArray)] 25 (0, 0))) ∧ (w.heap.size ≤ s_) ∧ (∀ p ∈ ([(g20, .cells #[.int .u8 2, .bool false, .int .i64 (a * 2 ^ n.toNat), .string (⟨#[]⟩ : ByteArray)] 25 (0, 0)), (g7, .cells #[.int .u8 2, .bool false, .int .i64 (a), .string (⟨#[]⟩ : ByteArray)] 25 (0, 0)), (g8, .cells #[.int .u8 2, .bool false, .int .i64 (b), .string (⟨#[]⟩ : ByteArray)] 25 (0, 0))] : List (Nat × Obj)), p.1 ≠ s_)) ?_ ?_
                                rotate_left
                                · intro hCont
                                  refine two_ (i := 2) (j := 7) (Ni := some 132) (Nj := some 21) #[true, true, true, false, false, false, false, false, false, false] #[true, true, false, false, false, false, false, true, false, false] rfl rfl rfl rfl (two_of HT_.out (by kernel_rfl)) (by decide) (by decide) (fun K hK => ?_) (fun K hK => ?_)
                                  · skip
                                    refine goes_ Tryd.func10 (by kernel_rfl) rfl #[.int .i64 (n)] (by rfl) rfl rfl (by (try simp only [List.map_toArray, List.map_cons, List.map_nil]); first | done | rfl) ?_
                                    refine (monikerlaw8_num.calls (n) 2 false (n) ⟨#[]⟩ _ rfl).mono ?_
                                    rintro e wk ⟨rfl, hb⟩
                                    refine ⟨_, rfl, ?_⟩
                                    have hH := hHeld.below hb
                                    clear hHeld hb
                                    refine hK.out _ _ hH (fun hHeld => ?_)
                                    clear hH
                                    clear hK K
                                    refine norm_ (a' := ?_) ?_ ?_
                                    rotate_left
                                    · show Act.put _ (some 132) _ = _
                                      simp only [Act.put, List.setIfInBounds_toArray, List.set_cons_zero, List.set_cons_succ, i64_w, i32_w]
                                      rfl
                                    refine two_ (i := 3) (j := 7) (Ni := some 133) (Nj := some 21) #[true, true, true, true, false, false, false, false, false, false] #[true, true, true, false, false, false, false, true, false, false] rfl rfl rfl rfl (two_of HT_.out (by kernel_rfl)) (by decide) (by decide) (fun K hK => ?_) (fun K hK => ?_)
                                    · skip
                                      refine goes_ Tryd.func8 (by kernel_rfl) rfl #[.int .u8 41, .agg #[.int .u8 2, .bool false, .int .i64 (a * 2 ^ n.toNat), .string (⟨#[]⟩ : ByteArray)], .agg #[.int .u8 2, .bool false, .int .i64 (n), .string (⟨#[]⟩ : ByteArray)]] (by rfl) rfl rfl (by (try simp only [List.map_toArray, List.map_cons, List.map_nil]); first | done | rfl) ?_
                                      refine (consts_Binary.calls 5 41 2 false (a * 2 ^ n.toNat) ⟨#[]⟩ 2 false n ⟨#[]⟩ 2 false a ⟨#[]⟩ 0 _ (Q.binN 41 (a * 2 ^ n.toNat) n (by decide) rfl HPI.out HN.out _ (Q.shr_back HN2.out)) (SG.grow HS.out hHeld.2)).mono ?_
                                      rintro e wk ⟨rfl, hb⟩
                                      refine ⟨_, rfl, ?_⟩
                                      have hH := hHeld.below hb
                                      clear hHeld hb
                                      refine hK.out _ _ hH (fun hHeld => ?_)
                                      clear hH
                                      clear hK K
                                      refine norm_ (a' := ?_) ?_ ?_
                                      rotate_left
                                      · show Act.put _ (some 133) _ = _
                                        simp only [Act.put, List.setIfInBounds_toArray, List.set_cons_zero, List.set_cons_succ, i64_w, i32_w]
                                        rfl
                                      refine pure_ (i := 4) (N := some 129) (v := ?_) (a' := ?_) #[true, true, true, true, true, false, false, false, false, false] rfl rfl (any_of HT_.out (by kernel_rfl)) (fun _ _ _ h => h) (Or.inl ⟨by rfl, ?_⟩) ?_ ?_
                                      rotate_left
                                      · intro w'
                                        go_simp
                                        with_reducible rfl
                                      rotate_left
                                      · simp only [Act.put, List.setIfInBounds_toArray, List.set_cons_zero, List.set_cons_succ, i64_w, i32_w]
                                        rfl
                                      refine pure_ (i := 5) (N := some 134) (v := ?_) (a' := ?_) #[true, true, true, true, true, true, false, false, false, false] rfl rfl (any_of HT_.out (by kernel_rfl)) (fun _ _ _ h => h) (Or.inl ⟨by rfl, ?_⟩) ?_ ?_
                                      rotate_left
                                      · intro w'
                                        go_simp
                                        with_reducible rfl
                                      rotate_left
                                      · simp only [Act.put, List.setIfInBounds_toArray, List.set_cons_zero, List.set_cons_succ, i64_w, i32_w]
                                        rfl
                                      refine pure_ (i := 6) (N := some 135) (v := ?_) (a' := ?_) #[true, true, true, true, true, true, true, false, false, false] rfl rfl (any_of HT_.out (by kernel_rfl)) (fun _ _ _ h => h) (Or.inl ⟨by rfl, ?_⟩) ?_ ?_
                                      rotate_left
                                      · intro w'
                                        go_simp
                                        with_reducible rfl
                                      rotate_left
                                      · simp only [Act.put, List.setIfInBounds_toArray, List.set_cons_zero, List.set_cons_succ, i64_w, i32_w]
                                        rfl
                                      refine one_ (i := 7) (N := some 21) #[true, true, true, true, true, true, true, true, false, false] rfl rfl (one_of HT_.out (by kernel_rfl)) (by decide) (fun K hK => ?_)
                                      refine box_step ?hg (N := 21) ?hd (cs := #[.int .u8 0, .bool false, .int .i64 0, .string (⟨#[]⟩ : ByteArray)]) (t := 25) ?hr ?_; (case hd => rfl); (case hg => rfl); (case hr => first | (go_simp; done) | (go_simp; rfl))
                                      intro gN hg wk hbox hb
                                      have hge : w.heap.size ≤ gN := by rw [hg]; exact hHeld.2.size
                                      have hne := hHeld.fresh hg
                                      have hz := hbox
                                      have hH := hHeld.below hb
                                      clear hHeld hb hbox hg
                                      refine hK.out _ _ hH (fun hHeld => ?_)
                                      clear hH
                                      clear hK K
                                      refine norm_ (a' := ?_) ?_ ?_
                                      rotate_left
                                      · show Act.put _ (some 21) _ = _
                                        simp only [Act.put, List.setIfInBounds_toArray, List.set_cons_zero, List.set_cons_succ, i64_w, i32_w]
                                        rfl
                                      exact norm_ (by simp only [putAll, Act.put, List.setIfInBounds_toArray, List.set_cons_zero, List.set_cons_succ]) (hCont gN _ ⟨hHeld, hz, hge, hne⟩)
                                    · skip
                                      refine box_step ?hg (N := 21) ?hd (cs := #[.int .u8 0, .bool false, .int .i64 0, .string (⟨#[]⟩ : ByteArray)]) (t := 25) ?hr ?_; (case hd => rfl); (case hg => rfl); (case hr => first | (go_simp; done) | (go_simp; rfl))
                                      intro gN hg wk hbox hb
                                      have hge : w.heap.size ≤ gN := by rw [hg]; exact hHeld.2.size
                                      have hne := hHeld.fresh hg
                                      have hz := hbox
                                      have hH := hHeld.below hb
                                      clear hHeld hb hbox hg
                                      refine hK.out _ _ hH (fun hHeld => ?_)
                                      clear hH
                                      clear hK K
                                      refine norm_ (a' := ?_) ?_ ?_
                                      rotate_left
                                      · show Act.put _ (some 21) _ = _
                                        simp only [Act.put, List.setIfInBounds_toArray, List.set_cons_zero, List.set_cons_succ, i64_w, i32_w]
                                        rfl
                                      refine one_ (i := 3) (N := some 133) #[true, true, true, true, false, false, false, true, false, false] rfl rfl (one_of HT_.out (by kernel_rfl)) (by decide) (fun K hK => ?_)
                                      refine goes_ Tryd.func8 (by kernel_rfl) rfl #[.int .u8 41, .agg #[.int .u8 2, .bool false, .int .i64 (a * 2 ^ n.toNat), .string (⟨#[]⟩ : ByteArray)], .agg #[.int .u8 2, .bool false, .int .i64 (n), .string (⟨#[]⟩ : ByteArray)]] (by rfl) rfl rfl (by (try simp only [List.map_toArray, List.map_cons, List.map_nil]); first | done | rfl) ?_
                                      refine (consts_Binary.calls 5 41 2 false (a * 2 ^ n.toNat) ⟨#[]⟩ 2 false n ⟨#[]⟩ 2 false a ⟨#[]⟩ 0 _ (Q.binN 41 (a * 2 ^ n.toNat) n (by decide) rfl HPI.out HN.out _ (Q.shr_back HN2.out)) (SG.grow HS.out hHeld.2)).mono ?_
                                      rintro e wk ⟨rfl, hb⟩
                                      refine ⟨_, rfl, ?_⟩
                                      have hH := hHeld.below hb
                                      have hz' := blk_below hz hb
                                      clear hz
                                      have hz := hz'
                                      clear hz'
                                      clear hHeld hb
                                      refine hK.out _ _ hH (fun hHeld => ?_)
                                      clear hH
                                      clear hK K
                                      refine norm_ (a' := ?_) ?_ ?_
                                      rotate_left
                                      · show Act.put _ (some 133) _ = _
                                        simp only [Act.put, List.setIfInBounds_toArray, List.set_cons_zero, List.set_cons_succ, i64_w, i32_w]
                                        rfl
                                      refine pure_ (i := 4) (N := some 129) (v := ?_) (a' := ?_) #[true, true, true, true, true, false, false, true, false, false] rfl rfl (any_of HT_.out (by kernel_rfl)) (fun _ _ _ h => h) (Or.inl ⟨by rfl, ?_⟩) ?_ ?_
                                      rotate_left
                                      · intro w'
                                        go_simp
                                        with_reducible rfl
                                      rotate_left
                                      · simp only [Act.put, List.setIfInBounds_toArray, List.set_cons_zero, List.set_cons_succ, i64_w, i32_w]
                                        rfl
                                      refine pure_ (i := 5) (N := some 134) (v := ?_) (a' := ?_) #[true, true, true, true, true, true, false, true, false, false] rfl rfl (any_of HT_.out (by kernel_rfl)) (fun _ _ _ h => h) (Or.inl ⟨by rfl, ?_⟩) ?_ ?_
                                      rotate_left
                                      · intro w'
                                        go_simp
                                        with_reducible rfl
                                      rotate_left
                                      · simp only [Act.put, List.setIfInBounds_toArray, List.set_cons_zero, List.set_cons_succ, i64_w, i32_w]
                                        rfl
                                      refine pure_ (i := 6) (N := some 135) (v := ?_) (a' := ?_) #[true, true, true, true, true, true, true, true, false, false] rfl rfl (any_of HT_.out (by kernel_rfl)) (fun _ _ _ h => h) (Or.inl ⟨by rfl, ?_⟩) ?_ ?_
                                      rotate_left
                                      · intro w'
                                        go_simp
                                        with_reducible rfl
                                      rotate_left
                                      · simp only [Act.put, List.setIfInBounds_toArray, List.set_cons_zero, List.set_cons_succ, i64_w, i32_w]
                                        rfl
                                      exact norm_ (by simp only [putAll, Act.put, List.setIfInBounds_toArray, List.set_cons_zero, List.set_cons_succ]) (hCont gN _ ⟨hHeld, hz, hge, hne⟩)
                                  · skip
                                    refine box_step ?hg (N := 21) ?hd (cs := #[.int .u8 0, .bool false, .int .i64 0, .string (⟨#[]⟩ : ByteArray)]) (t := 25) ?hr ?_; (case hd => rfl); (case hg => rfl); (case hr => first | (go_simp; done) | (go_simp; rfl))
                                    intro gN hg wk hbox hb
                                    have hge : w.heap.size ≤ gN := by rw [hg]; exact hHeld.2.size
                                    have hne := hHeld.fresh hg
                                    have hz := hbox
                                    have hH := hHeld.below hb
                                    clear hHeld hb hbox hg
                                    refine hK.out _ _ hH (fun hHeld => ?_)
                                    clear hH
                                    clear hK K
                                    refine norm_ (a' := ?_) ?_ ?_
                                    rotate_left
                                    · show Act.put _ (some 21) _ = _
                                      simp only [Act.put, List.setIfInBounds_toArray, List.set_cons_zero, List.set_cons_succ, i64_w, i32_w]
                                      rfl
                                    refine one_ (i := 2) (N := some 132) #[true, true, true, false, false, false, false, true, false, false] rfl rfl (one_of HT_.out (by kernel_rfl)) (by decide) (fun K hK => ?_)
                                    refine goes_ Tryd.func10 (by kernel_rfl) rfl #[.int .i64 (n)] (by rfl) rfl rfl (by (try simp only [List.map_toArray, List.map_cons, List.map_nil]); first | done | rfl) ?_
                                    refine (monikerlaw8_num.calls (n) 2 false (n) ⟨#[]⟩ _ rfl).mono ?_
                                    rintro e wk ⟨rfl, hb⟩
                                    refine ⟨_, rfl, ?_⟩
                                    have hH := hHeld.below hb
                                    have hz' := blk_below hz hb
                                    clear hz
                                    have hz := hz'
                                    clear hz'
                                    clear hHeld hb
                                    refine hK.out _ _ hH (fun hHeld => ?_)
                                    clear hH
                                    clear hK K
                                    refine norm_ (a' := ?_) ?_ ?_
                                    rotate_left
                                    · show Act.put _ (some 132) _ = _
                                      simp only [Act.put, List.setIfInBounds_toArray, List.set_cons_zero, List.set_cons_succ, i64_w, i32_w]
                                      rfl
                                    refine one_ (i := 3) (N := some 133) #[true, true, true, true, false, false, false, true, false, false] rfl rfl (one_of HT_.out (by kernel_rfl)) (by decide) (fun K hK => ?_)
                                    refine goes_ Tryd.func8 (by kernel_rfl) rfl #[.int .u8 41, .agg #[.int .u8 2, .bool false, .int .i64 (a * 2 ^ n.toNat), .string (⟨#[]⟩ : ByteArray)], .agg #[.int .u8 2, .bool false, .int .i64 (n), .string (⟨#[]⟩ : ByteArray)]] (by rfl) rfl rfl (by (try simp only [List.map_toArray, List.map_cons, List.map_nil]); first | done | rfl) ?_
                                    refine (consts_Binary.calls 5 41 2 false (a * 2 ^ n.toNat) ⟨#[]⟩ 2 false n ⟨#[]⟩ 2 false a ⟨#[]⟩ 0 _ (Q.binN 41 (a * 2 ^ n.toNat) n (by decide) rfl HPI.out HN.out _ (Q.shr_back HN2.out)) (SG.grow HS.out hHeld.2)).mono ?_
                                    rintro e wk ⟨rfl, hb⟩
                                    refine ⟨_, rfl, ?_⟩
                                    have hH := hHeld.below hb
                                    have hz' := blk_below hz hb
                                    clear hz
                                    have hz := hz'
                                    clear hz'
                                    clear hHeld hb
                                    refine hK.out _ _ hH (fun hHeld => ?_)
                                    clear hH
                                    clear hK K
                                    refine norm_ (a' := ?_) ?_ ?_
                                    rotate_left
                                    · show Act.put _ (some 133) _ = _
                                      simp only [Act.put, List.setIfInBounds_toArray, List.set_cons_zero, List.set_cons_succ, i64_w, i32_w]
                                      rfl
                                    refine pure_ (i := 4) (N := some 129) (v := ?_) (a' := ?_) #[true, true, true, true, true, false, false, true, false, false] rfl rfl (any_of HT_.out (by kernel_rfl)) (fun _ _ _ h => h) (Or.inl ⟨by rfl, ?_⟩) ?_ ?_
                                    rotate_left
                                    · intro w'
                                      go_simp
                                      with_reducible rfl
                                    rotate_left
                                    · simp only [Act.put, List.setIfInBounds_toArray, List.set_cons_zero, List.set_cons_succ, i64_w, i32_w]
                                      rfl
                                    refine pure_ (i := 5) (N := some 134) (v := ?_) (a' := ?_) #[true, true, true, true, true, true, false, true, false, false] rfl rfl (any_of HT_.out (by kernel_rfl)) (fun _ _ _ h => h) (Or.inl ⟨by rfl, ?_⟩) ?_ ?_
                                    rotate_left
                                    · intro w'
                                      go_simp
                                      with_reducible rfl
                                    rotate_left
                                    · simp only [Act.put, List.setIfInBounds_toArray, List.set_cons_zero, List.set_cons_succ, i64_w, i32_w]
                                      rfl
                                    refine pure_ (i := 6) (N := some 135) (v := ?_) (a' := ?_) #[true, true, true, true, true, true, true, true, false, false] rfl rfl (any_of HT_.out (by kernel_rfl)) (fun _ _ _ h => h) (Or.inl ⟨by rfl, ?_⟩) ?_ ?_
                                    rotate_left
                                    · intro w'
                                      go_simp
                                      with_reducible rfl
                                    rotate_left
                                    · simp only [Act.put, List.setIfInBounds_toArray, List.set_cons_zero, List.set_cons_succ, i64_w, i32_w]
                                      rfl
                                    exact norm_ (by simp only [putAll, Act.put, List.setIfInBounds_toArray, List.set_cons_zero, List.set_cons_succ]) (hCont gN _ ⟨hHeld, hz, hge, hne⟩)
                                rintro g21 wj ⟨hHeld, hz, hge, hne⟩
                                refine norm_ (a' := ?_) ?_ ?_
                                rotate_left
                                · simp only [putAll, Act.put, List.setIfInBounds_toArray, List.set_cons_zero, List.set_cons_succ]
                                  rfl
                                refine one_ (i := 8) (N := none) #[true, true, true, true, true, true, true, true, true, false] rfl rfl (one_of HT_.out (by kernel_rfl)) (by decide) (fun K hK => ?_)
                                have hs0 : wj.cell? ⟨g21, 0, none⟩ = some (.int .u8 0) := (blk_cell hz 0).trans rfl
                                have hf0 := blk_frozen hz 0
                                have hs1 : wj.cell? ⟨g21, 1, none⟩ = some (.bool false) := (blk_cell hz 1).trans rfl
                                have hf1 := blk_frozen hz 1
                                have hs2 : wj.cell? ⟨g21, 2, none⟩ = some (.int .i64 0) := (blk_cell hz 2).trans rfl
                                have hf2 := blk_frozen hz 2
                                have hs3 : wj.cell? ⟨g21, 3, none⟩ = some (.string (⟨#[]⟩ : ByteArray)) := (blk_cell hz 3).trans rfl
                                have hf3 := blk_frozen hz 3
                                obtain ⟨st1, st2, st3⟩ := box4 (.int .u8 2) (.bool false) (.int .i64 (a)) (.string (⟨#[]⟩ : ByteArray)) hz
                                have hH := hHeld.far st2 (st3 w hge hHeld.2) hne
                                refine skip_ (w1 := ?_) (by rfl) rfl ?_ ?_
                                rotate_left
                                · go_simp
                                  rfl
                                refine hK.out _ _ hH (fun hHeld => ?_)
                                clear hK K
                                refine pure_ (i := 9) (N := some 22) (v := ?_) (a' := ?_) #[true, true, true, true, true, true, true, true, true, true] rfl rfl (any_of HT_.out (by kernel_rfl)) (fun _ _ _ h => h) (Or.inl ⟨by rfl, ?_⟩) ?_ ?_
                                rotate_left
                                · intro w'
                                  go_simp
                                  with_reducible rfl
                                rotate_left
                                · simp only [Act.put, List.setIfInBounds_toArray, List.set_cons_zero, List.set_cons_succ, i64_w, i32_w]
                                  rfl
                                refine done_ (done_of HT_.out (by kernel_rfl)) ?_
                                try go_wp2_with (fail)
                                go_meet
                                case rel => exact ⟨g21, rfl, rfl, Aside0.mk st1, Aside0.mk (hHeld.1 (g7, .cells #[.int .u8 2, .bool false, .int .i64 (a), .string (⟨#[]⟩ : ByteArray)] 25 (0, 0)) (by simp)), Aside0.mk (hHeld.1 (g8, .cells #[.int .u8 2, .bool false, .int .i64 (b), .string (⟨#[]⟩ : ByteArray)] 25 (0, 0)) (by simp)), Aside0.mk hHeld.2⟩
                            case rest =>
                              as_aux_lemma =>
                                obtain ⟨g21, rfl, rfl, BKg21, BKg7, BKg8, HB⟩ := hcut
                                have qg21_0 : wc.cell? ⟨g21, 0, none⟩ = some (.int .u8 2) := (blk_cell BKg21.out 0).trans rfl
                                have qg21_1 : wc.cell? ⟨g21, 1, none⟩ = some (.bool false) := (blk_cell BKg21.out 1).trans rfl
                                have qg21_2 : wc.cell? ⟨g21, 2, none⟩ = some (.int .i64 (a)) := (blk_cell BKg21.out 2).trans rfl
                                have qg21_3 : wc.cell? ⟨g21, 3, none⟩ = some (.string (⟨#[]⟩ : ByteArray)) := (blk_cell BKg21.out 3).trans rfl
                                have qg7_0 : wc.cell? ⟨g7, 0, none⟩ = some (.int .u8 2) := (blk_cell BKg7.out 0).trans rfl
                                have qg7_1 : wc.cell? ⟨g7, 1, none⟩ = some (.bool false) := (blk_cell BKg7.out 1).trans rfl
                                have qg7_2 : wc.cell? ⟨g7, 2, none⟩ = some (.int .i64 (a)) := (blk_cell BKg7.out 2).trans rfl
                                have qg7_3 : wc.cell? ⟨g7, 3, none⟩ = some (.string (⟨#[]⟩ : ByteArray)) := (blk_cell BKg7.out 3).trans rfl
                                go_wp2
                                go_meet
                                case rel => exact ⟨BKg7, BKg8, HB⟩
                      case rest =>
                        as_aux_lemma =>
                          obtain ⟨BKg7, BKg8, HB⟩ := hcut
                          obtain ⟨⟨v1, v2, v3, v4, v5⟩, hV⟩ : ∃ V, consts_Unary.f 1 33 2 false a ⟨#[]⟩ = some V := by
                            by_cases h : a = -9223372036854775808
                            · exact ⟨_, by rw [h]; exact Q.un_neg_er⟩
                            · exact ⟨_, Q.un_neg a HA.out h⟩
                          have HV := Aside0.mk hV
                          clear hV
                          have qg7_0 : wc.cell? ⟨g7, 0, none⟩ = some (.int .u8 2) := (blk_cell BKg7.out 0).trans rfl
                          have qg7_1 : wc.cell? ⟨g7, 1, none⟩ = some (.bool false) := (blk_cell BKg7.out 1).trans rfl
                          have qg7_2 : wc.cell? ⟨g7, 2, none⟩ = some (.int .i64 (a)) := (blk_cell BKg7.out 2).trans rfl
                          have qg7_3 : wc.cell? ⟨g7, 3, none⟩ = some (.string (⟨#[]⟩ : ByteArray)) := (blk_cell BKg7.out 3).trans rfl
                          go_wp2_with (fail)
                          refine (consts_Unary.calls 1 33 2 false a ⟨#[]⟩ v1 v2 v3 v4 v5 _ HV.out).mono ?_
                          rintro e wd ⟨rfl, hb⟩
                          clear qg7_0 qg7_1 qg7_2 qg7_3
                          have n0_ := Aside0.mk (below_step HB.out hb)
                          clear HB
                          have HB := n0_
                          clear n0_
                          have n_ := Aside0.mk (blk_below BKg7.out hb)
                          clear BKg7
                          have BKg7 := n_
                          clear n_
                          have n_ := Aside0.mk (blk_below BKg8.out hb)
                          clear BKg8
                          have BKg8 := n_
                          clear n_
                          clear hb
                          go_upto_region 25 with (first
                            | ((with_reducible refine gate_dst (N := 23) rfl ?_); refine box_event ?hgg23 (N := 23) ?hdg23 (cs := #[.int .u8 0, .bool false, .int .i64 0, .string (⟨#[]⟩ : ByteArray)]) (t := 25) ?hrg23 ?_; (case hdg23 => rfl); (case hgg23 => rfl); (case hrg23 => first | (go_simp; done) | (go_simp; rfl)); intro g23 hg wb hbox hb; have hs0 : wb.cell? ⟨g23, 0, none⟩ = some (.int .u8 0) := (blk_cell hbox 0).trans rfl; have hf0 := blk_frozen hbox 0; have hs1 : wb.cell? ⟨g23, 1, none⟩ = some (.bool false) := (blk_cell hbox 1).trans rfl; have hf1 := blk_frozen hbox 1; have hs2 : wb.cell? ⟨g23, 2, none⟩ = some (.int .i64 0) := (blk_cell hbox 2).trans rfl; have hf2 := blk_frozen hbox 2; have hs3 : wb.cell? ⟨g23, 3, none⟩ = some (.string (⟨#[]⟩ : ByteArray)) := (blk_cell hbox 3).trans rfl; have hf3 := blk_frozen hbox 3; have n0_ := Aside0.mk (below_step HB.out hb); have NB := Aside0.mk hbox; have GEb := Aside0.mk (show w.heap.size ≤ g23 by rw [hg]; exact HB.out.size); have n_BKg7 := Aside0.mk (blk_below BKg7.out hb); have n_BKg8 := Aside0.mk (blk_below BKg8.out hb); have NEBKg7 := Aside0.mk (show g7 ≠ g23 by rw [hg]; exact Nat.ne_of_lt (blk_lt BKg7.out)); have NEBKg8 := Aside0.mk (show g8 ≠ g23 by rw [hg]; exact Nat.ne_of_lt (blk_lt BKg8.out)); clear HB; have HB := n0_; clear n0_; clear BKg7; have BKg7 := n_BKg7; clear n_BKg7; clear BKg8; have BKg8 := n_BKg8; clear n_BKg8; clear hb hbox hg))
                          obtain ⟨st1, st2, st3⟩ := box4 (.int .u8 v1) (.bool v2) (.int .i64 v3) (.string v4) NB.out
                          have nb_ := Aside0.mk (st3 w GEb.out HB.out)
                          have n_g7 := Aside0.mk ((st2 g7 (fun e => NEBKg7.out e)).trans BKg7.out)
                          have n_g8 := Aside0.mk ((st2 g8 (fun e => NEBKg8.out e)).trans BKg8.out)
                          have ng_ := Aside0.mk st1
                          clear st1 st2 st3 NB hs0 hf0 hs1 hf1 hs2 hf2 hs3 hf3 HB
                          clear BKg7
                          clear BKg8
                          generalize ((((wb.setCell ⟨g23, 0, none⟩ (.int .u8 v1)).setCell ⟨g23, 1, none⟩ (.bool v2)).setCell ⟨g23, 2, none⟩ (.int .i64 v3)).setCell ⟨g23, 3, none⟩ (.string v4)) = w9 at *
                          have HB := nb_
                          have BKg23 := ng_
                          have GEg23 := GEb
                          clear nb_ ng_ GEb
                          have BKg7 := n_g7
                          clear n_g7 NEBKg7
                          have BKg8 := n_g8
                          clear n_g8 NEBKg8
                          go_cut [152] (fun v152_ wc => v152_ = .bool false ∧ Aside0 (wc.heap[g23]? = some (.cells #[.int .u8 v1, .bool v2, .int .i64 v3, .string v4] 25 (0, 0))) ∧ Aside0 (wc.heap[g7]? = some (.cells #[.int .u8 2, .bool false, .int .i64 (a), .string (⟨#[]⟩ : ByteArray)] 25 (0, 0))) ∧ Aside0 (wc.heap[g8]? = some (.cells #[.int .u8 2, .bool false, .int .i64 (b), .string (⟨#[]⟩ : ByteArray)] 25 (0, 0))) ∧ Aside0 (Below w.heap.size w wc))
                          case first =>
                            as_aux_lemma =>
                              have hV := HV.out
                              by_cases hm : a = -9223372036854775808
                              · rw [hm, Q.un_neg_er] at hV
                                clear HV
                                simp only [Q.erV, Option.some.injEq, Prod.mk.injEq] at hV
                                obtain ⟨rfl, rfl, rfl, rfl, rfl⟩ := hV
                                have f1 : (a == -9223372036854775808) = true := beq_iff_eq.2 hm
                                clear hm
                                go_wp2
                                go_meet
                                case rel => exact ⟨rfl, BKg23, BKg7, BKg8, HB⟩
                              · rw [Q.un_neg a HA.out hm] at hV
                                clear HV
                                simp only [Q.okN, Option.some.injEq, Prod.mk.injEq] at hV
                                obtain ⟨rfl, rfl, rfl, rfl, rfl⟩ := hV
                                have f1 : (a == -9223372036854775808) = false := beq_eq_false_iff_ne.2 hm
                                clear hm
                                go_wp2
                                go_meet
                                case rel => exact ⟨rfl, BKg23, BKg7, BKg8, HB⟩
                          case rest =>
                            as_aux_lemma =>
                              obtain ⟨rfl, BKg23, BKg7, BKg8, HB⟩ := hcut
                              go_upto_if 154 with (fail)
                              go_cut [24, 25] (fun v24_ v25_ wc => Aside0 (wc.heap[g7]? = some (.cells #[.int .u8 2, .bool false, .int .i64 (a), .string (⟨#[]⟩ : ByteArray)] 25 (0, 0))) ∧ Aside0 (wc.heap[g8]? = some (.cells #[.int .u8 2, .bool false, .int .i64 (b), .string (⟨#[]⟩ : ByteArray)] 25 (0, 0))) ∧ Aside0 (Below w.heap.size w wc))
                              case first =>
                                as_aux_lemma =>
                                  have hV := HV.out
                                  by_cases hm : a = -9223372036854775808
                                  · rw [hm, Q.un_neg_er] at hV
                                    clear HV
                                    simp only [Q.erV, Option.some.injEq, Prod.mk.injEq] at hV
                                    obtain ⟨rfl, rfl, rfl, rfl, rfl⟩ := hV
                                    clear hm
                                    go_wp2
                                    go_meet
                                    case rel => exact ⟨BKg7, BKg8, HB⟩
                                  · have HM := Aside0.mk hm
                                    rw [Q.un_neg a HA.out hm] at hV
                                    clear HV
                                    simp only [Q.okN, Option.some.injEq, Prod.mk.injEq] at hV
                                    obtain ⟨rfl, rfl, rfl, rfl, rfl⟩ := hV
                                    clear hm
                                    have qg23_0 : wc.cell? ⟨g23, 0, none⟩ = some (.int .u8 2) := (blk_cell BKg23.out 0).trans rfl
                                    have qg23_1 : wc.cell? ⟨g23, 1, none⟩ = some (.bool false) := (blk_cell BKg23.out 1).trans rfl
                                    have qg23_2 : wc.cell? ⟨g23, 2, none⟩ = some (.int .i64 (-a)) := (blk_cell BKg23.out 2).trans rfl
                                    have qg23_3 : wc.cell? ⟨g23, 3, none⟩ = some (.string (⟨#[]⟩ : ByteArray)) := (blk_cell BKg23.out 3).trans rfl
                                    go_wp2_with (fail)
                                    refine (consts_Unary.calls 1 33 2 false (-a) ⟨#[]⟩ 2 false a ⟨#[]⟩ 0 _ (by rw [Q.un_neg (-a) (Q.in_neg HA.out HM.out) (Q.neg_ne HA.out), Q.neg_neg']; rfl)).mono ?_
                                    rintro e wd ⟨rfl, hb⟩
                                    clear qg23_0 qg23_1 qg23_2 qg23_3
                                    have n0_ := Aside0.mk (below_step HB.out hb)
                                    clear HB
                                    have HB := n0_
                                    clear n0_
                                    have n_ := Aside0.mk (blk_below BKg7.out hb)
                                    clear BKg7
                                    have BKg7 := n_
                                    clear n_
                                    have n_ := Aside0.mk (blk_below BKg8.out hb)
                                    clear BKg8
                                    have BKg8 := n_
                                    clear n_
                                    clear hb
                                    go_upto_region 29 with (first
                                      | ((with_reducible refine gate_dst (N := 24) rfl ?_); refine box_event ?hgg24 (N := 24) ?hdg24 (cs := #[.int .u8 0, .bool false, .int .i64 0, .string (⟨#[]⟩ : ByteArray)]) (t := 25) ?hrg24 ?_; (case hdg24 => rfl); (case hgg24 => rfl); (case hrg24 => first | (go_simp; done) | (go_simp; rfl)); intro g24 hg wb hbox hb; have hs0 : wb.cell? ⟨g24, 0, none⟩ = some (.int .u8 0) := (blk_cell hbox 0).trans rfl; have hf0 := blk_frozen hbox 0; have hs1 : wb.cell? ⟨g24, 1, none⟩ = some (.bool false) := (blk_cell hbox 1).trans rfl; have hf1 := blk_frozen hbox 1; have hs2 : wb.cell? ⟨g24, 2, none⟩ = some (.int .i64 0) := (blk_cell hbox 2).trans rfl; have hf2 := blk_frozen hbox 2; have hs3 : wb.cell? ⟨g24, 3, none⟩ = some (.string (⟨#[]⟩ : ByteArray)) := (blk_cell hbox 3).trans rfl; have hf3 := blk_frozen hbox 3; have n0_ := Aside0.mk (below_step HB.out hb); have NB := Aside0.mk hbox; have GEb := Aside0.mk (show w.heap.size ≤ g24 by rw [hg]; exact HB.out.size); have n_BKg7 := Aside0.mk (blk_below BKg7.out hb); have n_BKg8 := Aside0.mk (blk_below BKg8.out hb); have NEBKg7 := Aside0.mk (show g7 ≠ g24 by rw [hg]; exact Nat.ne_of_lt (blk_lt BKg7.out)); have NEBKg8 := Aside0.mk (show g8 ≠ g24 by rw [hg]; exact Nat.ne_of_lt (blk_lt BKg8.out)); clear HB; have HB := n0_; clear n0_; clear BKg7; have BKg7 := n_BKg7; clear n_BKg7; clear BKg8; have BKg8 := n_BKg8; clear n_BKg8; clear hb hbox hg))
                                    obtain ⟨st1, st2, st3⟩ := box4 (.int .u8 2) (.bool false) (.int .i64 (a)) (.string (⟨#[]⟩ : ByteArray)) NB.out
                                    have nb_ := Aside0.mk (st3 w GEb.out HB.out)
                                    have n_g7 := Aside0.mk ((st2 g7 (fun e => NEBKg7.out e)).trans BKg7.out)
                                    have n_g8 := Aside0.mk ((st2 g8 (fun e => NEBKg8.out e)).trans BKg8.out)
                                    have ng_ := Aside0.mk st1
                                    clear st1 st2 st3 NB hs0 hf0 hs1 hf1 hs2 hf2 hs3 hf3 HB
                                    clear BKg7
                                    clear BKg8
                                    generalize ((((wb.setCell ⟨g24, 0, none⟩ (.int .u8 2)).setCell ⟨g24, 1, none⟩ (.bool false)).setCell ⟨g24, 2, none⟩ (.int .i64 (a))).setCell ⟨g24, 3, none⟩ (.string (⟨#[]⟩ : ByteArray))) = wA at *
                                    have HB := nb_
                                    have BKg24 := ng_
                                    have GEg24 := GEb
                                    clear nb_ ng_ GEb
                                    have BKg7 := n_g7
                                    clear n_g7 NEBKg7
                                    have BKg8 := n_g8
                                    clear n_g8 NEBKg8
                                    have qg24_0 : wA.cell? ⟨g24, 0, none⟩ = some (.int .u8 2) := (blk_cell BKg24.out 0).trans rfl
                                    have qg24_1 : wA.cell? ⟨g24, 1, none⟩ = some (.bool false) := (blk_cell BKg24.out 1).trans rfl
                                    have qg24_2 : wA.cell? ⟨g24, 2, none⟩ = some (.int .i64 (a)) := (blk_cell BKg24.out 2).trans rfl
                                    have qg24_3 : wA.cell? ⟨g24, 3, none⟩ = some (.string (⟨#[]⟩ : ByteArray)) := (blk_cell BKg24.out 3).trans rfl
                                    have qg7_0 : wA.cell? ⟨g7, 0, none⟩ = some (.int .u8 2) := (blk_cell BKg7.out 0).trans rfl
                                    have qg7_1 : wA.cell? ⟨g7, 1, none⟩ = some (.bool false) := (blk_cell BKg7.out 1).trans rfl
                                    have qg7_2 : wA.cell? ⟨g7, 2, none⟩ = some (.int .i64 (a)) := (blk_cell BKg7.out 2).trans rfl
                                    have qg7_3 : wA.cell? ⟨g7, 3, none⟩ = some (.string (⟨#[]⟩ : ByteArray)) := (blk_cell BKg7.out 3).trans rfl
                                    go_wp2
                                    go_meet
                                    case rel => exact ⟨BKg7, BKg8, HB⟩
                              case rest =>
                                as_aux_lemma =>
                                  obtain ⟨BKg7, BKg8, HB⟩ := hcut
                                  have qg7_0 : wc.cell? ⟨g7, 0, none⟩ = some (.int .u8 2) := (blk_cell BKg7.out 0).trans rfl
                                  have qg7_1 : wc.cell? ⟨g7, 1, none⟩ = some (.bool false) := (blk_cell BKg7.out 1).trans rfl
                                  have qg7_2 : wc.cell? ⟨g7, 2, none⟩ = some (.int .i64 (a)) := (blk_cell BKg7.out 2).trans rfl
                                  have qg7_3 : wc.cell? ⟨g7, 3, none⟩ = some (.string (⟨#[]⟩ : ByteArray)) := (blk_cell BKg7.out 3).trans rfl
                                  go_wp2_with (fail)
                                  refine (consts_Unary.calls 1 39 2 false a ⟨#[]⟩ 2 false (wrap64 (-1 - a)) ⟨#[]⟩ 0 _ (Q.un_xor a)).mono ?_
                                  rintro e wd ⟨rfl, hb⟩
                                  clear qg7_0 qg7_1 qg7_2 qg7_3
                                  have n0_ := Aside0.mk (below_step HB.out hb)
                                  clear HB
                                  have HB := n0_
                                  clear n0_
                                  have n_ := Aside0.mk (blk_below BKg7.out hb)
                                  clear BKg7
                                  have BKg7 := n_
                                  clear n_
                                  have n_ := Aside0.mk (blk_below BKg8.out hb)
                                  clear BKg8
                                  have BKg8 := n_
                                  clear n_
                                  clear hb
                                  go_upto_region 32 with (first
                                    | ((with_reducible refine gate_dst (N := 26) rfl ?_); refine box_event ?hgg26 (N := 26) ?hdg26 (cs := #[.int .u8 0, .bool false, .int .i64 0, .string (⟨#[]⟩ : ByteArray)]) (t := 25) ?hrg26 ?_; (case hdg26 => rfl); (case hgg26 => rfl); (case hrg26 => first | (go_simp; done) | (go_simp; rfl)); intro g26 hg wb hbox hb; have hs0 : wb.cell? ⟨g26, 0, none⟩ = some (.int .u8 0) := (blk_cell hbox 0).trans rfl; have hf0 := blk_frozen hbox 0; have hs1 : wb.cell? ⟨g26, 1, none⟩ = some (.bool false) := (blk_cell hbox 1).trans rfl; have hf1 := blk_frozen hbox 1; have hs2 : wb.cell? ⟨g26, 2, none⟩ = some (.int .i64 0) := (blk_cell hbox 2).trans rfl; have hf2 := blk_frozen hbox 2; have hs3 : wb.cell? ⟨g26, 3, none⟩ = some (.string (⟨#[]⟩ : ByteArray)) := (blk_cell hbox 3).trans rfl; have hf3 := blk_frozen hbox 3; have n0_ := Aside0.mk (below_step HB.out hb); have NB := Aside0.mk hbox; have GEb := Aside0.mk (show w.heap.size ≤ g26 by rw [hg]; exact HB.out.size); have n_BKg7 := Aside0.mk (blk_below BKg7.out hb); have n_BKg8 := Aside0.mk (blk_below BKg8.out hb); have NEBKg7 := Aside0.mk (show g7 ≠ g26 by rw [hg]; exact Nat.ne_of_lt (blk_lt BKg7.out)); have NEBKg8 := Aside0.mk (show g8 ≠ g26 by rw [hg]; exact Nat.ne_of_lt (blk_lt BKg8.out)); clear HB; have HB := n0_; clear n0_; clear BKg7; have BKg7 := n_BKg7; clear n_BKg7; clear BKg8; have BKg8 := n_BKg8; clear n_BKg8; clear hb hbox hg))
                                  obtain ⟨st1, st2, st3⟩ := box4 (.int .u8 2) (.bool false) (.int .i64 (wrap64 (-1 - a))) (.string (⟨#[]⟩ : ByteArray)) NB.out
                                  have nb_ := Aside0.mk (st3 w GEb.out HB.out)
                                  have n_g7 := Aside0.mk ((st2 g7 (fun e => NEBKg7.out e)).trans BKg7.out)
                                  have n_g8 := Aside0.mk ((st2 g8 (fun e => NEBKg8.out e)).trans BKg8.out)
                                  have ng_ := Aside0.mk st1
                                  clear st1 st2 st3 NB hs0 hf0 hs1 hf1 hs2 hf2 hs3 hf3 HB
                                  clear BKg7
                                  clear BKg8
                                  generalize ((((wb.setCell ⟨g26, 0, none⟩ (.int .u8 2)).setCell ⟨g26, 1, none⟩ (.bool false)).setCell ⟨g26, 2, none⟩ (.int .i64 (wrap64 (-1 - a)))).setCell ⟨g26, 3, none⟩ (.string (⟨#[]⟩ : ByteArray))) = wB at *
                                  have HB := nb_
                                  have BKg26 := ng_
                                  have GEg26 := GEb
                                  clear nb_ ng_ GEb
                                  have BKg7 := n_g7
                                  clear n_g7 NEBKg7
                                  have BKg8 := n_g8
                                  clear n_g8 NEBKg8
                                  have qg7_0 : wB.cell? ⟨g7, 0, none⟩ = some (.int .u8 2) := (blk_cell BKg7.out 0).trans rfl
                                  have qg7_1 : wB.cell? ⟨g7, 1, none⟩ = some (.bool false) := (blk_cell BKg7.out 1).trans rfl
                                  have qg7_2 : wB.cell? ⟨g7, 2, none⟩ = some (.int .i64 (a)) := (blk_cell BKg7.out 2).trans rfl
                                  have qg7_3 : wB.cell? ⟨g7, 3, none⟩ = some (.string (⟨#[]⟩ : ByteArray)) := (blk_cell BKg7.out 3).trans rfl
                                  have qg8_0 : wB.cell? ⟨g8, 0, none⟩ = some (.int .u8 2) := (blk_cell BKg8.out 0).trans rfl
                                  have qg8_1 : wB.cell? ⟨g8, 1, none⟩ = some (.bool false) := (blk_cell BKg8.out 1).trans rfl
                                  have qg8_2 : wB.cell? ⟨g8, 2, none⟩ = some (.int .i64 (b)) := (blk_cell BKg8.out 2).trans rfl
                                  have qg8_3 : wB.cell? ⟨g8, 3, none⟩ = some (.string (⟨#[]⟩ : ByteArray)) := (blk_cell BKg8.out 3).trans rfl
                                  have qg26_0 : wB.cell? ⟨g26, 0, none⟩ = some (.int .u8 2) := (blk_cell BKg26.out 0).trans rfl
                                  have qg26_1 : wB.cell? ⟨g26, 1, none⟩ = some (.bool false) := (blk_cell BKg26.out 1).trans rfl
                                  have qg26_2 : wB.cell? ⟨g26, 2, none⟩ = some (.int .i64 (wrap64 (-1 - a))) := (blk_cell BKg26.out 2).trans rfl
                                  have qg26_3 : wB.cell? ⟨g26, 3, none⟩ = some (.string (⟨#[]⟩ : ByteArray)) := (blk_cell BKg26.out 3).trans rfl
                                  go_wp2_with (fail)
                                  refine (consts_Binary.calls 5 37 2 false (b) ⟨#[]⟩ 2 false (wrap64 (-1 - a)) ⟨#[]⟩ (2) (false) ((Go.bits .andNot .i64 b a)) ((⟨#[]⟩ : ByteArray)) (0) _ (Q.binN 37 b (wrap64 (-1 - a)) (by decide) rfl HBB.out (Q.in_wrap _) _ ((Q.and_not a b).trans rfl)) (SG.grow HS.out HB.out)).mono ?_
                                  rintro e wc ⟨rfl, hb⟩
                                  clear qg7_0 qg7_1 qg7_2 qg7_3 qg8_0 qg8_1 qg8_2 qg8_3 qg26_0 qg26_1 qg26_2 qg26_3
                                  have n0_ := Aside0.mk (below_step HB.out hb)
                                  clear HB
                                  have HB := n0_
                                  clear n0_
                                  have n_ := Aside0.mk (blk_below BKg7.out hb)
                                  clear BKg7
                                  have BKg7 := n_
                                  clear n_
                                  have n_ := Aside0.mk (blk_below BKg8.out hb)
                                  clear BKg8
                                  have BKg8 := n_
                                  clear n_
                                  have n_ := Aside0.mk (blk_below BKg26.out hb)
                                  clear BKg26
                                  have BKg26 := n_
                                  clear n_
                                  clear hb
                                  go_upto_region 33 with (first
                                    | ((with_reducible refine gate_dst (N := 27) rfl ?_); refine box_event ?hgg27 (N := 27) ?hdg27 (cs := #[.int .u8 0, .bool false, .int .i64 0, .string (⟨#[]⟩ : ByteArray)]) (t := 25) ?hrg27 ?_; (case hdg27 => rfl); (case hgg27 => rfl); (case hrg27 => first | (go_simp; done) | (go_simp; rfl)); intro g27 hg wb hbox hb; have hs0 : wb.cell? ⟨g27, 0, none⟩ = some (.int .u8 0) := (blk_cell hbox 0).trans rfl; have hf0 := blk_frozen hbox 0; have hs1 : wb.cell? ⟨g27, 1, none⟩ = some (.bool false) := (blk_cell hbox 1).trans rfl; have hf1 := blk_frozen hbox 1; have hs2 : wb.cell? ⟨g27, 2, none⟩ = some (.int .i64 0) := (blk_cell hbox 2).trans rfl; have hf2 := blk_frozen hbox 2; have hs3 : wb.cell? ⟨g27, 3, none⟩ = some (.string (⟨#[]⟩ : ByteArray)) := (blk_cell hbox 3).trans rfl; have hf3 := blk_frozen hbox 3; have n0_ := Aside0.mk (below_step HB.out hb); have NB := Aside0.mk hbox; have GEb := Aside0.mk (show w.heap.size ≤ g27 by rw [hg]; exact HB.out.size); have n_BKg7 := Aside0.mk (blk_below BKg7.out hb); have n_BKg8 := Aside0.mk (blk_below BKg8.out hb); have n_BKg26 := Aside0.mk (blk_below BKg26.out hb); have NEBKg7 := Aside0.mk (show g7 ≠ g27 by rw [hg]; exact Nat.ne_of_lt (blk_lt BKg7.out)); have NEBKg8 := Aside0.mk (show g8 ≠ g27 by rw [hg]; exact Nat.ne_of_lt (blk_lt BKg8.out)); have NEBKg26 := Aside0.mk (show g26 ≠ g27 by rw [hg]; exact Nat.ne_of_lt (blk_lt BKg26.out)); clear HB; have HB := n0_; clear n0_; clear BKg7; have BKg7 := n_BKg7; clear n_BKg7; clear BKg8; have BKg8 := n_BKg8; clear n_BKg8; clear BKg26; have BKg26 := n_BKg26; clear n_BKg26; clear hb hbox hg))
                                  obtain ⟨st1, st2, st3⟩ := box4 (.int .u8 2) (.bool false) (.int .i64 (Go.bits .andNot .i64 b a)) (.string (⟨#[]⟩ : ByteArray)) NB.out
                                  have nb_ := Aside0.mk (st3 w GEb.out HB.out)
                                  have n_g7 := Aside0.mk ((st2 g7 (fun e => NEBKg7.out e)).trans BKg7.out)
                                  have n_g8 := Aside0.mk ((st2 g8 (fun e => NEBKg8.out e)).trans BKg8.out)
                                  have n_g26 := Aside0.mk ((st2 g26 (fun e => NEBKg26.out e)).trans BKg26.out)
                                  have ng_ := Aside0.mk st1
                                  clear st1 st2 st3 NB hs0 hf0 hs1 hf1 hs2 hf2 hs3 hf3 HB
                                  clear BKg7
                                  clear BKg8
                                  clear BKg26
                                  generalize ((((wb.setCell ⟨g27, 0, none⟩ (.int .u8 2)).setCell ⟨g27, 1, none⟩ (.bool false)).setCell ⟨g27, 2, none⟩ (.int .i64 (Go.bits .andNot .i64 b a))).setCell ⟨g27, 3, none⟩ (.string (⟨#[]⟩ : ByteArray))) = wC at *
                                  have HB := nb_
                                  have BKg27 := ng_
                                  have GEg27 := GEb
                                  clear nb_ ng_ GEb
                                  have BKg7 := n_g7
                                  clear n_g7 NEBKg7
                                  have BKg8 := n_g8
                                  clear n_g8 NEBKg8
                                  have BKg26 := n_g26
                                  clear n_g26 NEBKg26
                                  have qg7_0 : wC.cell? ⟨g7, 0, none⟩ = some (.int .u8 2) := (blk_cell BKg7.out 0).trans rfl
                                  have qg7_1 : wC.cell? ⟨g7, 1, none⟩ = some (.bool false) := (blk_cell BKg7.out 1).trans rfl
                                  have qg7_2 : wC.cell? ⟨g7, 2, none⟩ = some (.int .i64 (a)) := (blk_cell BKg7.out 2).trans rfl
                                  have qg7_3 : wC.cell? ⟨g7, 3, none⟩ = some (.string (⟨#[]⟩ : ByteArray)) := (blk_cell BKg7.out 3).trans rfl
                                  have qg8_0 : wC.cell? ⟨g8, 0, none⟩ = some (.int .u8 2) := (blk_cell BKg8.out 0).trans rfl
                                  have qg8_1 : wC.cell? ⟨g8, 1, none⟩ = some (.bool false) := (blk_cell BKg8.out 1).trans rfl
                                  have qg8_2 : wC.cell? ⟨g8, 2, none⟩ = some (.int .i64 (b)) := (blk_cell BKg8.out 2).trans rfl
                                  have qg8_3 : wC.cell? ⟨g8, 3, none⟩ = some (.string (⟨#[]⟩ : ByteArray)) := (blk_cell BKg8.out 3).trans rfl
                                  have qg27_0 : wC.cell? ⟨g27, 0, none⟩ = some (.int .u8 2) := (blk_cell BKg27.out 0).trans rfl
                                  have qg27_1 : wC.cell? ⟨g27, 1, none⟩ = some (.bool false) := (blk_cell BKg27.out 1).trans rfl
                                  have qg27_2 : wC.cell? ⟨g27, 2, none⟩ = some (.int .i64 (Go.bits .andNot .i64 b a)) := (blk_cell BKg27.out 2).trans rfl
                                  have qg27_3 : wC.cell? ⟨g27, 3, none⟩ = some (.string (⟨#[]⟩ : ByteArray)) := (blk_cell BKg27.out 3).trans rfl
                                  go_wp2_with (fail)
                                  refine (consts_Binary.calls 5 42 2 false (b) ⟨#[]⟩ 2 false (a) ⟨#[]⟩ (2) (false) ((Go.bits .andNot .i64 b a)) ((⟨#[]⟩ : ByteArray)) (0) _ (Q.binN 42 b a (by decide) rfl HBB.out HA.out _ rfl) (SG.grow HS.out HB.out)).mono ?_
                                  rintro e wc ⟨rfl, hb⟩
                                  clear qg7_0 qg7_1 qg7_2 qg7_3 qg8_0 qg8_1 qg8_2 qg8_3 qg27_0 qg27_1 qg27_2 qg27_3
                                  have n0_ := Aside0.mk (below_step HB.out hb)
                                  clear HB
                                  have HB := n0_
                                  clear n0_
                                  have n_ := Aside0.mk (blk_below BKg7.out hb)
                                  clear BKg7
                                  have BKg7 := n_
                                  clear n_
                                  have n_ := Aside0.mk (blk_below BKg8.out hb)
                                  clear BKg8
                                  have BKg8 := n_
                                  clear n_
                                  have n_ := Aside0.mk (blk_below BKg27.out hb)
                                  clear BKg27
                                  have BKg27 := n_
                                  clear n_
                                  clear hb
                                  go_upto_region 34 with (first
                                    | ((with_reducible refine gate_dst (N := 29) rfl ?_); refine box_event ?hgg29 (N := 29) ?hdg29 (cs := #[.int .u8 0, .bool false, .int .i64 0, .string (⟨#[]⟩ : ByteArray)]) (t := 25) ?hrg29 ?_; (case hdg29 => rfl); (case hgg29 => rfl); (case hrg29 => first | (go_simp; done) | (go_simp; rfl)); intro g29 hg wb hbox hb; have hs0 : wb.cell? ⟨g29, 0, none⟩ = some (.int .u8 0) := (blk_cell hbox 0).trans rfl; have hf0 := blk_frozen hbox 0; have hs1 : wb.cell? ⟨g29, 1, none⟩ = some (.bool false) := (blk_cell hbox 1).trans rfl; have hf1 := blk_frozen hbox 1; have hs2 : wb.cell? ⟨g29, 2, none⟩ = some (.int .i64 0) := (blk_cell hbox 2).trans rfl; have hf2 := blk_frozen hbox 2; have hs3 : wb.cell? ⟨g29, 3, none⟩ = some (.string (⟨#[]⟩ : ByteArray)) := (blk_cell hbox 3).trans rfl; have hf3 := blk_frozen hbox 3; have n0_ := Aside0.mk (below_step HB.out hb); have NB := Aside0.mk hbox; have GEb := Aside0.mk (show w.heap.size ≤ g29 by rw [hg]; exact HB.out.size); have n_BKg7 := Aside0.mk (blk_below BKg7.out hb); have n_BKg8 := Aside0.mk (blk_below BKg8.out hb); have n_BKg27 := Aside0.mk (blk_below BKg27.out hb); have NEBKg7 := Aside0.mk (show g7 ≠ g29 by rw [hg]; exact Nat.ne_of_lt (blk_lt BKg7.out)); have NEBKg8 := Aside0.mk (show g8 ≠ g29 by rw [hg]; exact Nat.ne_of_lt (blk_lt BKg8.out)); have NEBKg27 := Aside0.mk (show g27 ≠ g29 by rw [hg]; exact Nat.ne_of_lt (blk_lt BKg27.out)); clear HB; have HB := n0_; clear n0_; clear BKg7; have BKg7 := n_BKg7; clear n_BKg7; clear BKg8; have BKg8 := n_BKg8; clear n_BKg8; clear BKg27; have BKg27 := n_BKg27; clear n_BKg27; clear hb hbox hg))
                                  obtain ⟨st1, st2, st3⟩ := box4 (.int .u8 2) (.bool false) (.int .i64 (Go.bits .andNot .i64 b a)) (.string (⟨#[]⟩ : ByteArray)) NB.out
                                  have nb_ := Aside0.mk (st3 w GEb.out HB.out)
                                  have n_g7 := Aside0.mk ((st2 g7 (fun e => NEBKg7.out e)).trans BKg7.out)
                                  have n_g8 := Aside0.mk ((st2 g8 (fun e => NEBKg8.out e)).trans BKg8.out)
                                  have n_g27 := Aside0.mk ((st2 g27 (fun e => NEBKg27.out e)).trans BKg27.out)
                                  have ng_ := Aside0.mk st1
                                  clear st1 st2 st3 NB hs0 hf0 hs1 hf1 hs2 hf2 hs3 hf3 HB
                                  clear BKg7
                                  clear BKg8
                                  clear BKg27
                                  generalize ((((wb.setCell ⟨g29, 0, none⟩ (.int .u8 2)).setCell ⟨g29, 1, none⟩ (.bool false)).setCell ⟨g29, 2, none⟩ (.int .i64 (Go.bits .andNot .i64 b a))).setCell ⟨g29, 3, none⟩ (.string (⟨#[]⟩ : ByteArray))) = wD at *
                                  have HB := nb_
                                  have BKg29 := ng_
                                  have GEg29 := GEb
                                  clear nb_ ng_ GEb
                                  have BKg7 := n_g7
                                  clear n_g7 NEBKg7
                                  have BKg8 := n_g8
                                  clear n_g8 NEBKg8
                                  have BKg27 := n_g27
                                  clear n_g27 NEBKg27
                                  have qg27_0 : wD.cell? ⟨g27, 0, none⟩ = some (.int .u8 2) := (blk_cell BKg27.out 0).trans rfl
                                  have qg27_1 : wD.cell? ⟨g27, 1, none⟩ = some (.bool false) := (blk_cell BKg27.out 1).trans rfl
                                  have qg27_2 : wD.cell? ⟨g27, 2, none⟩ = some (.int .i64 (Go.bits .andNot .i64 b a)) := (blk_cell BKg27.out 2).trans rfl
                                  have qg27_3 : wD.cell? ⟨g27, 3, none⟩ = some (.string (⟨#[]⟩ : ByteArray)) := (blk_cell BKg27.out 3).trans rfl
                                  have qg29_0 : wD.cell? ⟨g29, 0, none⟩ = some (.int .u8 2) := (blk_cell BKg29.out 0).trans rfl
                                  have qg29_1 : wD.cell? ⟨g29, 1, none⟩ = some (.bool false) := (blk_cell BKg29.out 1).trans rfl
                                  have qg29_2 : wD.cell? ⟨g29, 2, none⟩ = some (.int .i64 (Go.bits .andNot .i64 b a)) := (blk_cell BKg29.out 2).trans rfl
                                  have qg29_3 : wD.cell? ⟨g29, 3, none⟩ = some (.string (⟨#[]⟩ : ByteArray)) := (blk_cell BKg29.out 3).trans rfl
                                  go_wp2
                                  go_ret
                                  exact ⟨rfl, HB.out⟩
end Go.Proofs.YteklmgmhkmdddaaDoor.L
