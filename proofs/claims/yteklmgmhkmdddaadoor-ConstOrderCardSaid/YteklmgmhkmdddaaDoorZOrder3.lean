/- Texts of the proof of one law (Order), part 3: functions printed as Lean functions with their walks, and what is proved of them. Conditions: those of each theorem. -/
import Derived.Test.YteklmgmhkmdddaaDoorZOrder2
import Derived.Test.YteklmgmhkmdddaaDoorWMore
import Derived.SizedLaws
import Derived.ChangeSlices
import Derived.Deep.Slices
import Derived.ChangeArms
import Derived.Test.YteklmgmhkmdddaaDoorRows
import Derived.ProofKit
import Derived.LaidMore
import Derived.LaidLaws
import Derived.OpenShut
import Derived.Stop.Joined
-- A text of this session's own program (wip/myprint.sh over a changed print tool): functions and their walks
namespace Go.Proofs.YteklmgmhkmdddaaDoor.S
open Go.RowKit Go.Proofs.YteklmgmhkmdddaaDoorW.PrintWords Go.Proofs.YteklmgmhkmdddaaDoorW.PrintLast Go.Proofs.YteklmgmhkmdddaaDoorW.PrintMore
attribute [local go_sem] max2_int min2_int max_two min_two max_three min_three max_four min_four   -- for this text's walks alone
set_option linter.unusedVariables false
set_option linter.unusedSimpArgs false

attribute [local go_sem high] eqA25
/-! ### monikerlaw8_ConstOrder: function 5 -/
mutual
def monikerlaw8_ConstOrder.j0 : Nat → Bool → Int → Bool → Int → ByteArray → Int → Bool → Int → ByteArray → Option (Bool)
  | 0, _, _, _, _, _, _, _, _, _ => none
  | k + 1, x37, x264000, x264001, x264002, x264003, x265000, x265001, x265002, x265003 => if x37 = true then (some false) else ((monikerref8_Right.f x264000 x264001 x264002 x264003).bind fun t275 => (if t275 = true then ((monikerref8_Right.f x265000 x265001 x265002 x265003).bind fun t276 => (if t276 = true then (monikerlaw8_ConstOrder.j1 k (x264000 != x265000) x264000 x264001 x264002 x264003 x265000 x265001 x265002 x265003) else (monikerlaw8_ConstOrder.j1 k true x264000 x264001 x264002 x264003 x265000 x265001 x265002 x265003))) else (monikerlaw8_ConstOrder.j1 k true x264000 x264001 x264002 x264003 x265000 x265001 x265002 x265003)))
def monikerlaw8_ConstOrder.j1 : Nat → Bool → Int → Bool → Int → ByteArray → Int → Bool → Int → ByteArray → Option (Bool)
  | 0, _, _, _, _, _, _, _, _, _ => none
  | k + 1, x52, x264000, x264001, x264002, x264003, x265000, x265001, x265002, x265003 => if x52 = true then ((consts_Less.f k x264000 x264001 x264002 x264003 x265000 x265001 x265002 x265003).bind fun t277 => (some (!t277))) else ((consts_Less.f k x264000 x264001 x264002 x264003 x265000 x265001 x265002 x265003).bind fun t278 => (if t278 = true then (monikerlaw8_ConstOrder.j2 k false x264000 x264001 x264002 x264003 x265000 x265001 x265002 x265003) else ((consts_Less.f k x265000 x265001 x265002 x265003 x264000 x264001 x264002 x264003).bind fun t279 => (if t279 = true then (monikerlaw8_ConstOrder.j2 k false x264000 x264001 x264002 x264003 x265000 x265001 x265002 x265003) else (monikerlaw8_ConstOrder.j2 k (!(x264000 == x265000) || (!(x264001 == x265001) || (!(x264002 == x265002) || (!(x264003.toList == x265003.toList))))) x264000 x264001 x264002 x264003 x265000 x265001 x265002 x265003)))))
def monikerlaw8_ConstOrder.j2 : Nat → Bool → Int → Bool → Int → ByteArray → Int → Bool → Int → ByteArray → Option (Bool)
  | 0, _, _, _, _, _, _, _, _, _ => none
  | k + 1, x71, x264000, x264001, x264002, x264003, x265000, x265001, x265002, x265003 => if x71 = true then (some false) else ((consts_Binary.f k 60 x264000 x264001 x264002 x264003 x265000 x265001 x265002 x265003).bind fun bt280 => (if x264000 = 1 then (some (bt280.2.2.2.2 == 81)) else (if bt280.2.2.2.2 = 0 then ((consts_Less.f k x264000 x264001 x264002 x264003 x265000 x265001 x265002 x265003).bind fun t286 => (some (bt280.1 == 1 && (bt280.2.1 == t286 && (bt280.2.2.1 == 0 && (bt280.2.2.2.1.toList == ([] : List UInt8))))))) else (some false))))
end
def monikerlaw8_ConstOrder.f (k : Nat) (a0_0 : Int) (a0_1 : Bool) (a0_2 : Int) (a0_3 : ByteArray) (a1_0 : Int) (a1_1 : Bool) (a1_2 : Int) (a1_3 : ByteArray) (a2_0 : Int) (a2_1 : Bool) (a2_2 : Int) (a2_3 : ByteArray) : Option (Bool) := (consts_Less.f k a0_0 a0_1 a0_2 a0_3 a0_0 a0_1 a0_2 a0_3).bind fun t266 => (if t266 = true then (monikerlaw8_ConstOrder.j0 k true a0_0 a0_1 a0_2 a0_3 a1_0 a1_1 a1_2 a1_3) else ((consts_Less.f k a0_0 a0_1 a0_2 a0_3 a1_0 a1_1 a1_2 a1_3).bind fun t267 => (if t267 = true then ((consts_Less.f k a1_0 a1_1 a1_2 a1_3 a0_0 a0_1 a0_2 a0_3).bind fun t268 => (if t268 = true then (monikerlaw8_ConstOrder.j0 k true a0_0 a0_1 a0_2 a0_3 a1_0 a1_1 a1_2 a1_3) else ((consts_Less.f k a0_0 a0_1 a0_2 a0_3 a1_0 a1_1 a1_2 a1_3).bind fun t269 => (if t269 = true then ((consts_Less.f k a1_0 a1_1 a1_2 a1_3 a2_0 a2_1 a2_2 a2_3).bind fun t270 => (if t270 = true then ((consts_Less.f k a0_0 a0_1 a0_2 a0_3 a2_0 a2_1 a2_2 a2_3).bind fun t271 => (monikerlaw8_ConstOrder.j0 k (!t271) a0_0 a0_1 a0_2 a0_3 a1_0 a1_1 a1_2 a1_3)) else (monikerlaw8_ConstOrder.j0 k false a0_0 a0_1 a0_2 a0_3 a1_0 a1_1 a1_2 a1_3))) else (monikerlaw8_ConstOrder.j0 k false a0_0 a0_1 a0_2 a0_3 a1_0 a1_1 a1_2 a1_3))))) else ((consts_Less.f k a0_0 a0_1 a0_2 a0_3 a1_0 a1_1 a1_2 a1_3).bind fun t272 => (if t272 = true then ((consts_Less.f k a1_0 a1_1 a1_2 a1_3 a2_0 a2_1 a2_2 a2_3).bind fun t273 => (if t273 = true then ((consts_Less.f k a0_0 a0_1 a0_2 a0_3 a2_0 a2_1 a2_2 a2_3).bind fun t274 => (monikerlaw8_ConstOrder.j0 k (!t274) a0_0 a0_1 a0_2 a0_3 a1_0 a1_1 a1_2 a1_3)) else (monikerlaw8_ConstOrder.j0 k false a0_0 a0_1 a0_2 a0_3 a1_0 a1_1 a1_2 a1_3))) else (monikerlaw8_ConstOrder.j0 k false a0_0 a0_1 a0_2 a0_3 a1_0 a1_1 a1_2 a1_3))))))
def monikerlaw8_ConstOrder.T10 : Bool × List (List Nat × List Nat) := (true, [([], []), ([0], [0]), ([1], [1]), ([2], [2]), ([2], [2]), ([2], [2]), ([4, 5, 2, 2], [2, 4, 5]), ([6, 2], [2, 6]), ([3, 7, 2], [2, 3, 7]), ([2, 8], [2, 8]), ([9, 6, 0, 1, 2, 3, 4, 5, 6, 7, 8, 9], [9])])
def monikerlaw8_ConstOrder.B10 : List Nat := [0, 1, 3, 7, 7, 7, 55, 119, 255, 511, 1023]
theorem monikerlaw8_ConstOrder.tab10 : rtab .any (opsOf Tryd.f5 10) = monikerlaw8_ConstOrder.T10 := by kernel_rfl
theorem monikerlaw8_ConstOrder.bits10 : waitsOk monikerlaw8_ConstOrder.T10.2 monikerlaw8_ConstOrder.B10 = true := by kernel_rfl
set_option maxHeartbeats 8000000 in
set_option maxRecDepth 100000 in
theorem monikerlaw8_ConstOrder.calls (k : Nat) (a0_0 : Int) (a0_1 : Bool) (a0_2 : Int) (a0_3 : ByteArray) (a1_0 : Int) (a1_1 : Bool) (a1_2 : Int) (a1_3 : ByteArray) (a2_0 : Int) (a2_1 : Bool) (a2_2 : Int) (a2_3 : ByteArray) (r : Bool) (w : World) (h : monikerlaw8_ConstOrder.f k a0_0 a0_1 a0_2 a0_3 a1_0 a1_1 a1_2 a1_3 a2_0 a2_1 a2_2 a2_3 = some r) (hs_ : SG w) :
    Calls Tryd.prog 5 #[.agg #[.int .u8 a0_0, .bool a0_1, .int .i64 a0_2, .string a0_3], .agg #[.int .u8 a1_0, .bool a1_1, .int .i64 a1_2, .string a1_3], .agg #[.int .u8 a2_0, .bool a2_1, .int .i64 a2_2, .string a2_3]] w fun e w' => e = .returned (.bool r) ∧ Below w.heap.size w w' := by
  have hu25 := Tryd.underlying25
  have HS := Aside0.mk hs_
  clear hs_
  have HB := Aside0.mk (Below.refl w.heap.size w)
  have H : ((consts_Less.f k a0_0 a0_1 a0_2 a0_3 a0_0 a0_1 a0_2 a0_3).bind fun t266 => (if t266 = true then (monikerlaw8_ConstOrder.j0 k true a0_0 a0_1 a0_2 a0_3 a1_0 a1_1 a1_2 a1_3) else ((consts_Less.f k a0_0 a0_1 a0_2 a0_3 a1_0 a1_1 a1_2 a1_3).bind fun t267 => (if t267 = true then ((consts_Less.f k a1_0 a1_1 a1_2 a1_3 a0_0 a0_1 a0_2 a0_3).bind fun t268 => (if t268 = true then (monikerlaw8_ConstOrder.j0 k true a0_0 a0_1 a0_2 a0_3 a1_0 a1_1 a1_2 a1_3) else ((consts_Less.f k a0_0 a0_1 a0_2 a0_3 a1_0 a1_1 a1_2 a1_3).bind fun t269 => (if t269 = true then ((consts_Less.f k a1_0 a1_1 a1_2 a1_3 a2_0 a2_1 a2_2 a2_3).bind fun t270 => (if t270 = true then ((consts_Less.f k a0_0 a0_1 a0_2 a0_3 a2_0 a2_1 a2_2 a2_3).bind fun t271 => (monikerlaw8_ConstOrder.j0 k (!t271) a0_0 a0_1 a0_2 a0_3 a1_0 a1_1 a1_2 a1_3)) else (monikerlaw8_ConstOrder.j0 k false a0_0 a0_1 a0_2 a0_3 a1_0 a1_1 a1_2 a1_3))) else (monikerlaw8_ConstOrder.j0 k false a0_0 a0_1 a0_2 a0_3 a1_0 a1_1 a1_2 a1_3))))) else ((consts_Less.f k a0_0 a0_1 a0_2 a0_3 a1_0 a1_1 a1_2 a1_3).bind fun t272 => (if t272 = true then ((consts_Less.f k a1_0 a1_1 a1_2 a1_3 a2_0 a2_1 a2_2 a2_3).bind fun t273 => (if t273 = true then ((consts_Less.f k a0_0 a0_1 a0_2 a0_3 a2_0 a2_1 a2_2 a2_3).bind fun t274 => (monikerlaw8_ConstOrder.j0 k (!t274) a0_0 a0_1 a0_2 a0_3 a1_0 a1_1 a1_2 a1_3)) else (monikerlaw8_ConstOrder.j0 k false a0_0 a0_1 a0_2 a0_3 a1_0 a1_1 a1_2 a1_3))) else (monikerlaw8_ConstOrder.j0 k false a0_0 a0_1 a0_2 a0_3 a1_0 a1_1 a1_2 a1_3))))))) = some r := h
  clear h
  have HC4 := Aside0.mk H
  clear H
  go_enter Tryd.func5, Tryd.ntmps5
  go_upto_region 1 with (first | ((with_reducible refine gate_dst (N := 3) rfl ?_); refine box_event ?hg (N := 3) ?hd (cs := #[.int .u8 a0_0, .bool a0_1, .int .i64 a0_2, .string a0_3]) (t := 25) ?hr ?_; (case hd => rfl); (case hg => rfl); (case hr => first | (go_simp; done) | (go_simp; rfl)); intro gb263 hg w5 hbox hb; have n0_ := Aside0.mk (below_step (by repeat (first | (with_reducible first | exact HB.out | apply below_alloc | apply pw_below_drewN | apply below_drew1) | exact HB.out)) hb); have n1_ := Aside0.mk (hbox); have n2_ := Aside0.mk ((by rw [hg]; exact (below_size (by repeat (first | (with_reducible first | exact HB.out | apply below_alloc | apply pw_below_drewN | apply below_drew1) | exact HB.out))) : w.heap.size ≤ gb263)); have n3_ := Aside0.mk ((by rw [hg]; exact (below_size (by repeat (first | (with_reducible first | exact HB.out | apply below_alloc | apply pw_below_drewN | apply below_drew1) | exact HB.out))) : w.heap.size ≤ gb263)); clear HB; have HB := n0_; have BK263 := n1_; have GW263 := n2_; have GE263 := n3_; clear n0_ n1_ n2_ n3_; clear hb hbox hg) | ((with_reducible refine gate_dst (N := 4) rfl ?_); refine box_event ?hg (N := 4) ?hd (cs := #[.int .u8 a1_0, .bool a1_1, .int .i64 a1_2, .string a1_3]) (t := 25) ?hr ?_; (case hd => rfl); (case hg => rfl); (case hr => first | (go_simp; done) | (go_simp; rfl)); intro gb264 hg w6 hbox hb; have n0_ := Aside0.mk (blk_below (g := gb263) (o := .cells #[.int .u8 a0_0, .bool a0_1, .int .i64 a0_2, .string a0_3] 25 (0, 0)) (by (with_reducible repeat (first | refine blk_drewN ?_ _ | refine blk_drew ?_ | refine blk_alloc ?_ _)); exact BK263.out) hb); have n1_ := Aside0.mk (below_step (by repeat (first | (with_reducible first | exact HB.out | apply below_alloc | apply pw_below_drewN | apply below_drew1 | refine below_set ?_ GE263.out) | exact HB.out)) hb); have n2_ := Aside0.mk (hbox); have n3_ := Aside0.mk ((by rw [hg]; exact (below_size (by repeat (first | (with_reducible first | exact HB.out | apply below_alloc | apply pw_below_drewN | apply below_drew1 | refine below_set ?_ GE263.out) | exact HB.out))) : w.heap.size ≤ gb264)); have n4_ := Aside0.mk ((by rw [hg]; exact (below_size (by repeat (first | (with_reducible first | exact HB.out | apply below_alloc | apply pw_below_drewN | apply below_drew1 | refine below_set ?_ GE263.out) | exact HB.out))) : w.heap.size ≤ gb264)); have n5_ := Aside0.mk ((by rw [hg]; exact Nat.ne_of_lt (blk_lt (g := gb263) (o := .cells #[.int .u8 a0_0, .bool a0_1, .int .i64 a0_2, .string a0_3] 25 (0, 0)) (by (with_reducible repeat (first | refine blk_drewN ?_ _ | refine blk_drew ?_ | refine blk_alloc ?_ _)); exact BK263.out)) : gb263 ≠ gb264)); have n6_ := Aside0.mk ((by rw [hg]; exact Nat.ne_of_gt (blk_lt (g := gb263) (o := .cells #[.int .u8 a0_0, .bool a0_1, .int .i64 a0_2, .string a0_3] 25 (0, 0)) (by (with_reducible repeat (first | refine blk_drewN ?_ _ | refine blk_drew ?_ | refine blk_alloc ?_ _)); exact BK263.out)) : gb264 ≠ gb263)); clear BK263; clear HB; have BK263 := n0_; have HB := n1_; have BK264 := n2_; have GW264 := n3_; have GE264 := n4_; have NB263_264 := n5_; have NB264_263 := n6_; clear n0_ n1_ n2_ n3_ n4_ n5_ n6_; clear hb hbox hg) | ((with_reducible refine gate_dst (N := 5) rfl ?_); refine box_event ?hg (N := 5) ?hd (cs := #[.int .u8 a2_0, .bool a2_1, .int .i64 a2_2, .string a2_3]) (t := 25) ?hr ?_; (case hd => rfl); (case hg => rfl); (case hr => first | (go_simp; done) | (go_simp; rfl)); intro gb265 hg w7 hbox hb; have n0_ := Aside0.mk (blk_below (g := gb263) (o := .cells #[.int .u8 a0_0, .bool a0_1, .int .i64 a0_2, .string a0_3] 25 (0, 0)) (by (with_reducible repeat (first | refine blk_drewN ?_ _ | refine blk_drew ?_ | refine blk_alloc ?_ _)); exact BK263.out) hb); have n1_ := Aside0.mk (blk_below (g := gb264) (o := .cells #[.int .u8 a1_0, .bool a1_1, .int .i64 a1_2, .string a1_3] 25 (0, 0)) (by (with_reducible repeat (first | refine blk_drewN ?_ _ | refine blk_drew ?_ | refine blk_alloc ?_ _)); exact BK264.out) hb); have n2_ := Aside0.mk (below_step (by repeat (first | (with_reducible first | exact HB.out | apply below_alloc | apply pw_below_drewN | apply below_drew1 | refine below_set ?_ GE263.out | refine below_set ?_ GE264.out) | exact HB.out)) hb); have n3_ := Aside0.mk (hbox); have n4_ := Aside0.mk ((by rw [hg]; exact (below_size (by repeat (first | (with_reducible first | exact HB.out | apply below_alloc | apply pw_below_drewN | apply below_drew1 | refine below_set ?_ GE263.out | refine below_set ?_ GE264.out) | exact HB.out))) : w.heap.size ≤ gb265)); have n5_ := Aside0.mk ((by rw [hg]; exact (below_size (by repeat (first | (with_reducible first | exact HB.out | apply below_alloc | apply pw_below_drewN | apply below_drew1 | refine below_set ?_ GE263.out | refine below_set ?_ GE264.out) | exact HB.out))) : w.heap.size ≤ gb265)); have n6_ := Aside0.mk ((by rw [hg]; exact Nat.ne_of_lt (blk_lt (g := gb263) (o := .cells #[.int .u8 a0_0, .bool a0_1, .int .i64 a0_2, .string a0_3] 25 (0, 0)) (by (with_reducible repeat (first | refine blk_drewN ?_ _ | refine blk_drew ?_ | refine blk_alloc ?_ _)); exact BK263.out)) : gb263 ≠ gb265)); have n7_ := Aside0.mk ((by rw [hg]; exact Nat.ne_of_gt (blk_lt (g := gb263) (o := .cells #[.int .u8 a0_0, .bool a0_1, .int .i64 a0_2, .string a0_3] 25 (0, 0)) (by (with_reducible repeat (first | refine blk_drewN ?_ _ | refine blk_drew ?_ | refine blk_alloc ?_ _)); exact BK263.out)) : gb265 ≠ gb263)); have n8_ := Aside0.mk ((by rw [hg]; exact Nat.ne_of_lt (blk_lt (g := gb264) (o := .cells #[.int .u8 a1_0, .bool a1_1, .int .i64 a1_2, .string a1_3] 25 (0, 0)) (by (with_reducible repeat (first | refine blk_drewN ?_ _ | refine blk_drew ?_ | refine blk_alloc ?_ _)); exact BK264.out)) : gb264 ≠ gb265)); have n9_ := Aside0.mk ((by rw [hg]; exact Nat.ne_of_gt (blk_lt (g := gb264) (o := .cells #[.int .u8 a1_0, .bool a1_1, .int .i64 a1_2, .string a1_3] 25 (0, 0)) (by (with_reducible repeat (first | refine blk_drewN ?_ _ | refine blk_drew ?_ | refine blk_alloc ?_ _)); exact BK264.out)) : gb265 ≠ gb264)); clear BK263; clear BK264; clear HB; have BK263 := n0_; have BK264 := n1_; have HB := n2_; have BK265 := n3_; have GW265 := n4_; have GE265 := n5_; have NB263_265 := n6_; have NB265_263 := n7_; have NB264_265 := n8_; have NB265_264 := n9_; clear n0_ n1_ n2_ n3_ n4_ n5_ n6_ n7_ n8_ n9_; clear hb hbox hg))
  (try simp only [Act.put, List.setIfInBounds_toArray, List.set_cons_zero, List.set_cons_succ])
  go_cut [37] (fun v37 wc => ∃ (kq : Nat) (x37_3 : Bool), v37 = .bool x37_3 ∧ Aside0 (monikerlaw8_ConstOrder.j0 kq x37_3 a0_0 a0_1 a0_2 a0_3 a1_0 a1_1 a1_2 a1_3 = some r) ∧ Aside0 (kq ≤ k) ∧ Aside0 (wc.heap[gb263]? = some (.cells #[.int .u8 a0_0, .bool a0_1, .int .i64 a0_2, .string a0_3] 25 (0, 0))) ∧ Aside0 (wc.heap[gb264]? = some (.cells #[.int .u8 a1_0, .bool a1_1, .int .i64 a1_2, .string a1_3] 25 (0, 0))) ∧ Aside0 (wc.heap[gb265]? = some (.cells #[.int .u8 a2_0, .bool a2_1, .int .i64 a2_2, .string a2_3] 25 (0, 0))) ∧ Aside0 (Below w.heap.size w wc))
  case first =>
    have H := HC4.out
    clear HC4
    replace H := Option.bind_eq_some_iff.mp H
    obtain ⟨t266, A80, H⟩ := H
    replace H : (if t266 = true then (monikerlaw8_ConstOrder.j0 k true a0_0 a0_1 a0_2 a0_3 a1_0 a1_1 a1_2 a1_3) else ((consts_Less.f k a0_0 a0_1 a0_2 a0_3 a1_0 a1_1 a1_2 a1_3).bind fun t267 => (if t267 = true then ((consts_Less.f k a1_0 a1_1 a1_2 a1_3 a0_0 a0_1 a0_2 a0_3).bind fun t268 => (if t268 = true then (monikerlaw8_ConstOrder.j0 k true a0_0 a0_1 a0_2 a0_3 a1_0 a1_1 a1_2 a1_3) else ((consts_Less.f k a0_0 a0_1 a0_2 a0_3 a1_0 a1_1 a1_2 a1_3).bind fun t269 => (if t269 = true then ((consts_Less.f k a1_0 a1_1 a1_2 a1_3 a2_0 a2_1 a2_2 a2_3).bind fun t270 => (if t270 = true then ((consts_Less.f k a0_0 a0_1 a0_2 a0_3 a2_0 a2_1 a2_2 a2_3).bind fun t271 => (monikerlaw8_ConstOrder.j0 k (!t271) a0_0 a0_1 a0_2 a0_3 a1_0 a1_1 a1_2 a1_3)) else (monikerlaw8_ConstOrder.j0 k false a0_0 a0_1 a0_2 a0_3 a1_0 a1_1 a1_2 a1_3))) else (monikerlaw8_ConstOrder.j0 k false a0_0 a0_1 a0_2 a0_3 a1_0 a1_1 a1_2 a1_3))))) else ((consts_Less.f k a0_0 a0_1 a0_2 a0_3 a1_0 a1_1 a1_2 a1_3).bind fun t272 => (if t272 = true then ((consts_Less.f k a1_0 a1_1 a1_2 a1_3 a2_0 a2_1 a2_2 a2_3).bind fun t273 => (if t273 = true then ((consts_Less.f k a0_0 a0_1 a0_2 a0_3 a2_0 a2_1 a2_2 a2_3).bind fun t274 => (monikerlaw8_ConstOrder.j0 k (!t274) a0_0 a0_1 a0_2 a0_3 a1_0 a1_1 a1_2 a1_3)) else (monikerlaw8_ConstOrder.j0 k false a0_0 a0_1 a0_2 a0_3 a1_0 a1_1 a1_2 a1_3))) else (monikerlaw8_ConstOrder.j0 k false a0_0 a0_1 a0_2 a0_3 a1_0 a1_1 a1_2 a1_3)))))) = some r := H
    have A8 := Aside0.mk A80
    clear A80
    by_cases c9 : t266 = true
    · subst c9
      have H1 : (monikerlaw8_ConstOrder.j0 k true a0_0 a0_1 a0_2 a0_3 a1_0 a1_1 a1_2 a1_3) = some r := by rw [if_pos rfl] at H; exact H
      clear H
      have H := H1
      clear H1
      have H' := Aside0.mk H
      clear H
      have hnb10 := NB263_264.out
      have hnc10 := NB264_263.out
      have hnb11 := NB263_265.out
      have hnc11 := NB265_263.out
      have hcz12_0 : w7.cell? ⟨gb263, 0, none⟩ = some (.int .u8 a0_0) := (blk_cell BK263.out 0).trans rfl
      have hcz12_1 : w7.cell? ⟨gb263, 1, none⟩ = some (.bool a0_1) := (blk_cell BK263.out 1).trans rfl
      have hcz12_2 : w7.cell? ⟨gb263, 2, none⟩ = some (.int .i64 a0_2) := (blk_cell BK263.out 2).trans rfl
      have hcz12_3 : w7.cell? ⟨gb263, 3, none⟩ = some (.string a0_3) := (blk_cell BK263.out 3).trans rfl
      have hfz12_0 := blk_frozen BK263.out 0
      have hfz12_1 := blk_frozen BK263.out 1
      have hfz12_2 := blk_frozen BK263.out 2
      have hfz12_3 := blk_frozen BK263.out 3
      go_wp2_with (first | ((with_reducible refine gate_callee (f := 12) rfl ?_); refine goesL_ (some 11) rfl rfl Tryd.func12 (by kernel_rfl) rfl #[.agg #[.int .u8 a0_0, .bool a0_1, .int .i64 a0_2, .string a0_3], .agg #[.int .u8 a0_0, .bool a0_1, .int .i64 a0_2, .string a0_3]] rfl (by (try simp only [List.map_toArray, List.map_cons, List.map_nil]); first | done | rfl | (simp only [List.length_drop, List.length_take]; rfl)) ?_; (with_reducible refine (consts_Less.calls k a0_0 a0_1 a0_2 a0_3 a0_0 a0_1 a0_2 a0_3 true _ A8.out).mono ?_); rintro e w13 ⟨rfl, hb⟩; refine ⟨_, rfl, ?_⟩; have n0_ := Aside0.mk (blk_below (g := gb263) (o := .cells #[.int .u8 a0_0, .bool a0_1, .int .i64 a0_2, .string a0_3] 25 (0, 0)) (by (with_reducible repeat (first | refine blk_drewN ?_ _ | refine blk_drew ?_ | refine blk_alloc ?_ _)); exact BK263.out) hb); have n1_ := Aside0.mk (blk_below (g := gb264) (o := .cells #[.int .u8 a1_0, .bool a1_1, .int .i64 a1_2, .string a1_3] 25 (0, 0)) (by (with_reducible repeat (first | refine blk_drewN ?_ _ | refine blk_drew ?_ | refine blk_alloc ?_ _)); exact BK264.out) hb); have n2_ := Aside0.mk (blk_below (g := gb265) (o := .cells #[.int .u8 a2_0, .bool a2_1, .int .i64 a2_2, .string a2_3] 25 (0, 0)) (by (with_reducible repeat (first | refine blk_drewN ?_ _ | refine blk_drew ?_ | refine blk_alloc ?_ _)); exact BK265.out) hb); have n3_ := Aside0.mk (below_step (by repeat (first | (with_reducible first | exact HB.out | apply below_alloc | apply pw_below_drewN | apply below_drew1 | refine below_set ?_ GE263.out | refine below_set ?_ GE264.out | refine below_set ?_ GE265.out) | exact HB.out)) hb); clear BK263; clear BK264; clear BK265; clear HB; have BK263 := n0_; have BK264 := n1_; have BK265 := n2_; have HB := n3_; clear n0_ n1_ n2_ n3_; (try clear hb); (try clear hb2); (try clear hk); (try clear hi)))
      go_meet
      case rel => exact ⟨_, (true), (by first | rfl | (simp; done) | (simp [*]; done)), H', ⟨by first | omega | exact Nat.le_refl _⟩, ⟨by (with_reducible repeat (first | refine blk_drewN ?_ _ | refine blk_drew ?_ | refine blk_alloc ?_ _)); exact BK263.out⟩, ⟨by (with_reducible repeat (first | refine blk_drewN ?_ _ | refine blk_drew ?_ | refine blk_alloc ?_ _)); exact BK264.out⟩, ⟨by (with_reducible repeat (first | refine blk_drewN ?_ _ | refine blk_drew ?_ | refine blk_alloc ?_ _)); exact BK265.out⟩, ⟨by repeat (first | (with_reducible first | exact HB.out | apply below_alloc | apply pw_below_drewN | apply below_drew1 | refine below_set ?_ GE263.out | refine below_set ?_ GE264.out | refine below_set ?_ GE265.out) | exact HB.out)⟩⟩
    · replace c9 := Bool.eq_false_iff.mpr c9
      subst c9
      have H1 : ((consts_Less.f k a0_0 a0_1 a0_2 a0_3 a1_0 a1_1 a1_2 a1_3).bind fun t267 => (if t267 = true then ((consts_Less.f k a1_0 a1_1 a1_2 a1_3 a0_0 a0_1 a0_2 a0_3).bind fun t268 => (if t268 = true then (monikerlaw8_ConstOrder.j0 k true a0_0 a0_1 a0_2 a0_3 a1_0 a1_1 a1_2 a1_3) else ((consts_Less.f k a0_0 a0_1 a0_2 a0_3 a1_0 a1_1 a1_2 a1_3).bind fun t269 => (if t269 = true then ((consts_Less.f k a1_0 a1_1 a1_2 a1_3 a2_0 a2_1 a2_2 a2_3).bind fun t270 => (if t270 = true then ((consts_Less.f k a0_0 a0_1 a0_2 a0_3 a2_0 a2_1 a2_2 a2_3).bind fun t271 => (monikerlaw8_ConstOrder.j0 k (!t271) a0_0 a0_1 a0_2 a0_3 a1_0 a1_1 a1_2 a1_3)) else (monikerlaw8_ConstOrder.j0 k false a0_0 a0_1 a0_2 a0_3 a1_0 a1_1 a1_2 a1_3))) else (monikerlaw8_ConstOrder.j0 k false a0_0 a0_1 a0_2 a0_3 a1_0 a1_1 a1_2 a1_3))))) else ((consts_Less.f k a0_0 a0_1 a0_2 a0_3 a1_0 a1_1 a1_2 a1_3).bind fun t272 => (if t272 = true then ((consts_Less.f k a1_0 a1_1 a1_2 a1_3 a2_0 a2_1 a2_2 a2_3).bind fun t273 => (if t273 = true then ((consts_Less.f k a0_0 a0_1 a0_2 a0_3 a2_0 a2_1 a2_2 a2_3).bind fun t274 => (monikerlaw8_ConstOrder.j0 k (!t274) a0_0 a0_1 a0_2 a0_3 a1_0 a1_1 a1_2 a1_3)) else (monikerlaw8_ConstOrder.j0 k false a0_0 a0_1 a0_2 a0_3 a1_0 a1_1 a1_2 a1_3))) else (monikerlaw8_ConstOrder.j0 k false a0_0 a0_1 a0_2 a0_3 a1_0 a1_1 a1_2 a1_3))))) = some r := by rw [if_neg (show ¬ (false = true) by decide)] at H; exact H
      clear H
      have H := H1
      clear H1
      replace H := Option.bind_eq_some_iff.mp H
      obtain ⟨t267, A140, H⟩ := H
      replace H : (if t267 = true then ((consts_Less.f k a1_0 a1_1 a1_2 a1_3 a0_0 a0_1 a0_2 a0_3).bind fun t268 => (if t268 = true then (monikerlaw8_ConstOrder.j0 k true a0_0 a0_1 a0_2 a0_3 a1_0 a1_1 a1_2 a1_3) else ((consts_Less.f k a0_0 a0_1 a0_2 a0_3 a1_0 a1_1 a1_2 a1_3).bind fun t269 => (if t269 = true then ((consts_Less.f k a1_0 a1_1 a1_2 a1_3 a2_0 a2_1 a2_2 a2_3).bind fun t270 => (if t270 = true then ((consts_Less.f k a0_0 a0_1 a0_2 a0_3 a2_0 a2_1 a2_2 a2_3).bind fun t271 => (monikerlaw8_ConstOrder.j0 k (!t271) a0_0 a0_1 a0_2 a0_3 a1_0 a1_1 a1_2 a1_3)) else (monikerlaw8_ConstOrder.j0 k false a0_0 a0_1 a0_2 a0_3 a1_0 a1_1 a1_2 a1_3))) else (monikerlaw8_ConstOrder.j0 k false a0_0 a0_1 a0_2 a0_3 a1_0 a1_1 a1_2 a1_3))))) else ((consts_Less.f k a0_0 a0_1 a0_2 a0_3 a1_0 a1_1 a1_2 a1_3).bind fun t272 => (if t272 = true then ((consts_Less.f k a1_0 a1_1 a1_2 a1_3 a2_0 a2_1 a2_2 a2_3).bind fun t273 => (if t273 = true then ((consts_Less.f k a0_0 a0_1 a0_2 a0_3 a2_0 a2_1 a2_2 a2_3).bind fun t274 => (monikerlaw8_ConstOrder.j0 k (!t274) a0_0 a0_1 a0_2 a0_3 a1_0 a1_1 a1_2 a1_3)) else (monikerlaw8_ConstOrder.j0 k false a0_0 a0_1 a0_2 a0_3 a1_0 a1_1 a1_2 a1_3))) else (monikerlaw8_ConstOrder.j0 k false a0_0 a0_1 a0_2 a0_3 a1_0 a1_1 a1_2 a1_3)))) = some r := H
      have A14 := Aside0.mk A140
      clear A140
      by_cases c15 : t267 = true
      · subst c15
        have H1 : ((consts_Less.f k a1_0 a1_1 a1_2 a1_3 a0_0 a0_1 a0_2 a0_3).bind fun t268 => (if t268 = true then (monikerlaw8_ConstOrder.j0 k true a0_0 a0_1 a0_2 a0_3 a1_0 a1_1 a1_2 a1_3) else ((consts_Less.f k a0_0 a0_1 a0_2 a0_3 a1_0 a1_1 a1_2 a1_3).bind fun t269 => (if t269 = true then ((consts_Less.f k a1_0 a1_1 a1_2 a1_3 a2_0 a2_1 a2_2 a2_3).bind fun t270 => (if t270 = true then ((consts_Less.f k a0_0 a0_1 a0_2 a0_3 a2_0 a2_1 a2_2 a2_3).bind fun t271 => (monikerlaw8_ConstOrder.j0 k (!t271) a0_0 a0_1 a0_2 a0_3 a1_0 a1_1 a1_2 a1_3)) else (monikerlaw8_ConstOrder.j0 k false a0_0 a0_1 a0_2 a0_3 a1_0 a1_1 a1_2 a1_3))) else (monikerlaw8_ConstOrder.j0 k false a0_0 a0_1 a0_2 a0_3 a1_0 a1_1 a1_2 a1_3))))) = some r := by rw [if_pos rfl] at H; exact H
        clear H
        have H := H1
        clear H1
        replace H := Option.bind_eq_some_iff.mp H
        obtain ⟨t268, A160, H⟩ := H
        replace H : (if t268 = true then (monikerlaw8_ConstOrder.j0 k true a0_0 a0_1 a0_2 a0_3 a1_0 a1_1 a1_2 a1_3) else ((consts_Less.f k a0_0 a0_1 a0_2 a0_3 a1_0 a1_1 a1_2 a1_3).bind fun t269 => (if t269 = true then ((consts_Less.f k a1_0 a1_1 a1_2 a1_3 a2_0 a2_1 a2_2 a2_3).bind fun t270 => (if t270 = true then ((consts_Less.f k a0_0 a0_1 a0_2 a0_3 a2_0 a2_1 a2_2 a2_3).bind fun t271 => (monikerlaw8_ConstOrder.j0 k (!t271) a0_0 a0_1 a0_2 a0_3 a1_0 a1_1 a1_2 a1_3)) else (monikerlaw8_ConstOrder.j0 k false a0_0 a0_1 a0_2 a0_3 a1_0 a1_1 a1_2 a1_3))) else (monikerlaw8_ConstOrder.j0 k false a0_0 a0_1 a0_2 a0_3 a1_0 a1_1 a1_2 a1_3)))) = some r := H
        have A16 := Aside0.mk A160
        clear A160
        by_cases c17 : t268 = true
        · subst c17
          have H1 : (monikerlaw8_ConstOrder.j0 k true a0_0 a0_1 a0_2 a0_3 a1_0 a1_1 a1_2 a1_3) = some r := by rw [if_pos rfl] at H; exact H
          clear H
          have H := H1
          clear H1
          have H' := Aside0.mk H
          clear H
          have hnb18 := NB263_264.out
          have hnc18 := NB264_263.out
          have hnb19 := NB263_265.out
          have hnc19 := NB265_263.out
          have hcz20_0 : w7.cell? ⟨gb263, 0, none⟩ = some (.int .u8 a0_0) := (blk_cell BK263.out 0).trans rfl
          have hcz20_1 : w7.cell? ⟨gb263, 1, none⟩ = some (.bool a0_1) := (blk_cell BK263.out 1).trans rfl
          have hcz20_2 : w7.cell? ⟨gb263, 2, none⟩ = some (.int .i64 a0_2) := (blk_cell BK263.out 2).trans rfl
          have hcz20_3 : w7.cell? ⟨gb263, 3, none⟩ = some (.string a0_3) := (blk_cell BK263.out 3).trans rfl
          have hfz20_0 := blk_frozen BK263.out 0
          have hfz20_1 := blk_frozen BK263.out 1
          have hfz20_2 := blk_frozen BK263.out 2
          have hfz20_3 := blk_frozen BK263.out 3
          go_wp2_with (first | ((with_reducible refine gate_callee (f := 12) rfl ?_); refine goesL_ (some 11) rfl rfl Tryd.func12 (by kernel_rfl) rfl #[.agg #[.int .u8 a0_0, .bool a0_1, .int .i64 a0_2, .string a0_3], .agg #[.int .u8 a0_0, .bool a0_1, .int .i64 a0_2, .string a0_3]] rfl (by (try simp only [List.map_toArray, List.map_cons, List.map_nil]); first | done | rfl | (simp only [List.length_drop, List.length_take]; rfl)) ?_; (with_reducible refine (consts_Less.calls k a0_0 a0_1 a0_2 a0_3 a0_0 a0_1 a0_2 a0_3 false _ A8.out).mono ?_); rintro e w21 ⟨rfl, hb⟩; refine ⟨_, rfl, ?_⟩; have n0_ := Aside0.mk (blk_below (g := gb263) (o := .cells #[.int .u8 a0_0, .bool a0_1, .int .i64 a0_2, .string a0_3] 25 (0, 0)) (by (with_reducible repeat (first | refine blk_drewN ?_ _ | refine blk_drew ?_ | refine blk_alloc ?_ _)); exact BK263.out) hb); have n1_ := Aside0.mk (blk_below (g := gb264) (o := .cells #[.int .u8 a1_0, .bool a1_1, .int .i64 a1_2, .string a1_3] 25 (0, 0)) (by (with_reducible repeat (first | refine blk_drewN ?_ _ | refine blk_drew ?_ | refine blk_alloc ?_ _)); exact BK264.out) hb); have n2_ := Aside0.mk (blk_below (g := gb265) (o := .cells #[.int .u8 a2_0, .bool a2_1, .int .i64 a2_2, .string a2_3] 25 (0, 0)) (by (with_reducible repeat (first | refine blk_drewN ?_ _ | refine blk_drew ?_ | refine blk_alloc ?_ _)); exact BK265.out) hb); have n3_ := Aside0.mk (below_step (by repeat (first | (with_reducible first | exact HB.out | apply below_alloc | apply pw_below_drewN | apply below_drew1 | refine below_set ?_ GE263.out | refine below_set ?_ GE264.out | refine below_set ?_ GE265.out) | exact HB.out)) hb); clear BK263; clear BK264; clear BK265; clear HB; have BK263 := n0_; have BK264 := n1_; have BK265 := n2_; have HB := n3_; clear n0_ n1_ n2_ n3_; (try clear hb); (try clear hb2); (try clear hk); (try clear hi); (try have hcy0_0 : w21.cell? ⟨gb263, 0, none⟩ = some (.int .u8 a0_0) := (blk_cell BK263.out 0).trans rfl); (try have hcy0_1 : w21.cell? ⟨gb263, 1, none⟩ = some (.bool a0_1) := (blk_cell BK263.out 1).trans rfl); (try have hcy0_2 : w21.cell? ⟨gb263, 2, none⟩ = some (.int .i64 a0_2) := (blk_cell BK263.out 2).trans rfl); (try have hcy0_3 : w21.cell? ⟨gb263, 3, none⟩ = some (.string a0_3) := (blk_cell BK263.out 3).trans rfl); (try have hcy1_0 : w21.cell? ⟨gb264, 0, none⟩ = some (.int .u8 a1_0) := (blk_cell BK264.out 0).trans rfl); (try have hcy1_1 : w21.cell? ⟨gb264, 1, none⟩ = some (.bool a1_1) := (blk_cell BK264.out 1).trans rfl); (try have hcy1_2 : w21.cell? ⟨gb264, 2, none⟩ = some (.int .i64 a1_2) := (blk_cell BK264.out 2).trans rfl); (try have hcy1_3 : w21.cell? ⟨gb264, 3, none⟩ = some (.string a1_3) := (blk_cell BK264.out 3).trans rfl); (try have hcy2_0 : w21.cell? ⟨gb265, 0, none⟩ = some (.int .u8 a2_0) := (blk_cell BK265.out 0).trans rfl); (try have hcy2_1 : w21.cell? ⟨gb265, 1, none⟩ = some (.bool a2_1) := (blk_cell BK265.out 1).trans rfl); (try have hcy2_2 : w21.cell? ⟨gb265, 2, none⟩ = some (.int .i64 a2_2) := (blk_cell BK265.out 2).trans rfl); (try have hcy2_3 : w21.cell? ⟨gb265, 3, none⟩ = some (.string a2_3) := (blk_cell BK265.out 3).trans rfl); have hcz22_0 : w21.cell? ⟨gb263, 0, none⟩ = some (.int .u8 a0_0) := (blk_cell BK263.out 0).trans rfl; have hcz22_1 : w21.cell? ⟨gb263, 1, none⟩ = some (.bool a0_1) := (blk_cell BK263.out 1).trans rfl; have hcz22_2 : w21.cell? ⟨gb263, 2, none⟩ = some (.int .i64 a0_2) := (blk_cell BK263.out 2).trans rfl; have hcz22_3 : w21.cell? ⟨gb263, 3, none⟩ = some (.string a0_3) := (blk_cell BK263.out 3).trans rfl; have hfz22_0 := blk_frozen BK263.out 0; have hfz22_1 := blk_frozen BK263.out 1; have hfz22_2 := blk_frozen BK263.out 2; have hfz22_3 := blk_frozen BK263.out 3; have hnb23 := NB264_265.out; have hnc23 := NB265_264.out; have hcz24_0 : w21.cell? ⟨gb264, 0, none⟩ = some (.int .u8 a1_0) := (blk_cell BK264.out 0).trans rfl; have hcz24_1 : w21.cell? ⟨gb264, 1, none⟩ = some (.bool a1_1) := (blk_cell BK264.out 1).trans rfl; have hcz24_2 : w21.cell? ⟨gb264, 2, none⟩ = some (.int .i64 a1_2) := (blk_cell BK264.out 2).trans rfl; have hcz24_3 : w21.cell? ⟨gb264, 3, none⟩ = some (.string a1_3) := (blk_cell BK264.out 3).trans rfl; have hfz24_0 := blk_frozen BK264.out 0; have hfz24_1 := blk_frozen BK264.out 1; have hfz24_2 := blk_frozen BK264.out 2; have hfz24_3 := blk_frozen BK264.out 3) | (go_at_call 12; (with_reducible refine (consts_Less.calls k a0_0 a0_1 a0_2 a0_3 a1_0 a1_1 a1_2 a1_3 true _ A14.out).mono ?_); rintro e w25 ⟨rfl, hb⟩; have n0_ := Aside0.mk (blk_below (g := gb263) (o := .cells #[.int .u8 a0_0, .bool a0_1, .int .i64 a0_2, .string a0_3] 25 (0, 0)) (by (with_reducible repeat (first | refine blk_drewN ?_ _ | refine blk_drew ?_ | refine blk_alloc ?_ _)); exact BK263.out) hb); have n1_ := Aside0.mk (blk_below (g := gb264) (o := .cells #[.int .u8 a1_0, .bool a1_1, .int .i64 a1_2, .string a1_3] 25 (0, 0)) (by (with_reducible repeat (first | refine blk_drewN ?_ _ | refine blk_drew ?_ | refine blk_alloc ?_ _)); exact BK264.out) hb); have n2_ := Aside0.mk (blk_below (g := gb265) (o := .cells #[.int .u8 a2_0, .bool a2_1, .int .i64 a2_2, .string a2_3] 25 (0, 0)) (by (with_reducible repeat (first | refine blk_drewN ?_ _ | refine blk_drew ?_ | refine blk_alloc ?_ _)); exact BK265.out) hb); have n3_ := Aside0.mk (below_step (by repeat (first | (with_reducible first | exact HB.out | apply below_alloc | apply pw_below_drewN | apply below_drew1 | refine below_set ?_ GE263.out | refine below_set ?_ GE264.out | refine below_set ?_ GE265.out) | exact HB.out)) hb); clear BK263; clear BK264; clear BK265; clear HB; have BK263 := n0_; have BK264 := n1_; have BK265 := n2_; have HB := n3_; clear n0_ n1_ n2_ n3_; (try clear hb); (try clear hb2); (try clear hk); (try clear hi); (try have hcy0_0 : w25.cell? ⟨gb263, 0, none⟩ = some (.int .u8 a0_0) := (blk_cell BK263.out 0).trans rfl); (try have hcy0_1 : w25.cell? ⟨gb263, 1, none⟩ = some (.bool a0_1) := (blk_cell BK263.out 1).trans rfl); (try have hcy0_2 : w25.cell? ⟨gb263, 2, none⟩ = some (.int .i64 a0_2) := (blk_cell BK263.out 2).trans rfl); (try have hcy0_3 : w25.cell? ⟨gb263, 3, none⟩ = some (.string a0_3) := (blk_cell BK263.out 3).trans rfl); (try have hcy1_0 : w25.cell? ⟨gb264, 0, none⟩ = some (.int .u8 a1_0) := (blk_cell BK264.out 0).trans rfl); (try have hcy1_1 : w25.cell? ⟨gb264, 1, none⟩ = some (.bool a1_1) := (blk_cell BK264.out 1).trans rfl); (try have hcy1_2 : w25.cell? ⟨gb264, 2, none⟩ = some (.int .i64 a1_2) := (blk_cell BK264.out 2).trans rfl); (try have hcy1_3 : w25.cell? ⟨gb264, 3, none⟩ = some (.string a1_3) := (blk_cell BK264.out 3).trans rfl); (try have hcy2_0 : w25.cell? ⟨gb265, 0, none⟩ = some (.int .u8 a2_0) := (blk_cell BK265.out 0).trans rfl); (try have hcy2_1 : w25.cell? ⟨gb265, 1, none⟩ = some (.bool a2_1) := (blk_cell BK265.out 1).trans rfl); (try have hcy2_2 : w25.cell? ⟨gb265, 2, none⟩ = some (.int .i64 a2_2) := (blk_cell BK265.out 2).trans rfl); (try have hcy2_3 : w25.cell? ⟨gb265, 3, none⟩ = some (.string a2_3) := (blk_cell BK265.out 3).trans rfl); have hcz26_0 : w25.cell? ⟨gb264, 0, none⟩ = some (.int .u8 a1_0) := (blk_cell BK264.out 0).trans rfl; have hcz26_1 : w25.cell? ⟨gb264, 1, none⟩ = some (.bool a1_1) := (blk_cell BK264.out 1).trans rfl; have hcz26_2 : w25.cell? ⟨gb264, 2, none⟩ = some (.int .i64 a1_2) := (blk_cell BK264.out 2).trans rfl; have hcz26_3 : w25.cell? ⟨gb264, 3, none⟩ = some (.string a1_3) := (blk_cell BK264.out 3).trans rfl; have hfz26_0 := blk_frozen BK264.out 0; have hfz26_1 := blk_frozen BK264.out 1; have hfz26_2 := blk_frozen BK264.out 2; have hfz26_3 := blk_frozen BK264.out 3; have hcz27_0 : w25.cell? ⟨gb263, 0, none⟩ = some (.int .u8 a0_0) := (blk_cell BK263.out 0).trans rfl; have hcz27_1 : w25.cell? ⟨gb263, 1, none⟩ = some (.bool a0_1) := (blk_cell BK263.out 1).trans rfl; have hcz27_2 : w25.cell? ⟨gb263, 2, none⟩ = some (.int .i64 a0_2) := (blk_cell BK263.out 2).trans rfl; have hcz27_3 : w25.cell? ⟨gb263, 3, none⟩ = some (.string a0_3) := (blk_cell BK263.out 3).trans rfl; have hfz27_0 := blk_frozen BK263.out 0; have hfz27_1 := blk_frozen BK263.out 1; have hfz27_2 := blk_frozen BK263.out 2; have hfz27_3 := blk_frozen BK263.out 3) | (go_at_call 12; (with_reducible refine (consts_Less.calls k a1_0 a1_1 a1_2 a1_3 a0_0 a0_1 a0_2 a0_3 true _ A16.out).mono ?_); rintro e w28 ⟨rfl, hb⟩; have n0_ := Aside0.mk (blk_below (g := gb263) (o := .cells #[.int .u8 a0_0, .bool a0_1, .int .i64 a0_2, .string a0_3] 25 (0, 0)) (by (with_reducible repeat (first | refine blk_drewN ?_ _ | refine blk_drew ?_ | refine blk_alloc ?_ _)); exact BK263.out) hb); have n1_ := Aside0.mk (blk_below (g := gb264) (o := .cells #[.int .u8 a1_0, .bool a1_1, .int .i64 a1_2, .string a1_3] 25 (0, 0)) (by (with_reducible repeat (first | refine blk_drewN ?_ _ | refine blk_drew ?_ | refine blk_alloc ?_ _)); exact BK264.out) hb); have n2_ := Aside0.mk (blk_below (g := gb265) (o := .cells #[.int .u8 a2_0, .bool a2_1, .int .i64 a2_2, .string a2_3] 25 (0, 0)) (by (with_reducible repeat (first | refine blk_drewN ?_ _ | refine blk_drew ?_ | refine blk_alloc ?_ _)); exact BK265.out) hb); have n3_ := Aside0.mk (below_step (by repeat (first | (with_reducible first | exact HB.out | apply below_alloc | apply pw_below_drewN | apply below_drew1 | refine below_set ?_ GE263.out | refine below_set ?_ GE264.out | refine below_set ?_ GE265.out) | exact HB.out)) hb); clear BK263; clear BK264; clear BK265; clear HB; have BK263 := n0_; have BK264 := n1_; have BK265 := n2_; have HB := n3_; clear n0_ n1_ n2_ n3_; (try clear hb); (try clear hb2); (try clear hk); (try clear hi)))
          go_meet
          case rel => exact ⟨_, (true), (by first | rfl | (simp; done) | (simp [*]; done)), H', ⟨by first | omega | exact Nat.le_refl _⟩, ⟨by (with_reducible repeat (first | refine blk_drewN ?_ _ | refine blk_drew ?_ | refine blk_alloc ?_ _)); exact BK263.out⟩, ⟨by (with_reducible repeat (first | refine blk_drewN ?_ _ | refine blk_drew ?_ | refine blk_alloc ?_ _)); exact BK264.out⟩, ⟨by (with_reducible repeat (first | refine blk_drewN ?_ _ | refine blk_drew ?_ | refine blk_alloc ?_ _)); exact BK265.out⟩, ⟨by repeat (first | (with_reducible first | exact HB.out | apply below_alloc | apply pw_below_drewN | apply below_drew1 | refine below_set ?_ GE263.out | refine below_set ?_ GE264.out | refine below_set ?_ GE265.out) | exact HB.out)⟩⟩
        · replace c17 := Bool.eq_false_iff.mpr c17
          subst c17
          have H1 : ((consts_Less.f k a0_0 a0_1 a0_2 a0_3 a1_0 a1_1 a1_2 a1_3).bind fun t269 => (if t269 = true then ((consts_Less.f k a1_0 a1_1 a1_2 a1_3 a2_0 a2_1 a2_2 a2_3).bind fun t270 => (if t270 = true then ((consts_Less.f k a0_0 a0_1 a0_2 a0_3 a2_0 a2_1 a2_2 a2_3).bind fun t271 => (monikerlaw8_ConstOrder.j0 k (!t271) a0_0 a0_1 a0_2 a0_3 a1_0 a1_1 a1_2 a1_3)) else (monikerlaw8_ConstOrder.j0 k false a0_0 a0_1 a0_2 a0_3 a1_0 a1_1 a1_2 a1_3))) else (monikerlaw8_ConstOrder.j0 k false a0_0 a0_1 a0_2 a0_3 a1_0 a1_1 a1_2 a1_3))) = some r := by rw [if_neg (show ¬ (false = true) by decide)] at H; exact H
          clear H
          have H := H1
          clear H1
          replace H := Option.bind_eq_some_iff.mp H
          obtain ⟨t269, A290, H⟩ := H
          replace H : (if t269 = true then ((consts_Less.f k a1_0 a1_1 a1_2 a1_3 a2_0 a2_1 a2_2 a2_3).bind fun t270 => (if t270 = true then ((consts_Less.f k a0_0 a0_1 a0_2 a0_3 a2_0 a2_1 a2_2 a2_3).bind fun t271 => (monikerlaw8_ConstOrder.j0 k (!t271) a0_0 a0_1 a0_2 a0_3 a1_0 a1_1 a1_2 a1_3)) else (monikerlaw8_ConstOrder.j0 k false a0_0 a0_1 a0_2 a0_3 a1_0 a1_1 a1_2 a1_3))) else (monikerlaw8_ConstOrder.j0 k false a0_0 a0_1 a0_2 a0_3 a1_0 a1_1 a1_2 a1_3)) = some r := H
          have A29 := Aside0.mk A290
          clear A290
          by_cases c30 : t269 = true
          · subst c30
            have H1 : ((consts_Less.f k a1_0 a1_1 a1_2 a1_3 a2_0 a2_1 a2_2 a2_3).bind fun t270 => (if t270 = true then ((consts_Less.f k a0_0 a0_1 a0_2 a0_3 a2_0 a2_1 a2_2 a2_3).bind fun t271 => (monikerlaw8_ConstOrder.j0 k (!t271) a0_0 a0_1 a0_2 a0_3 a1_0 a1_1 a1_2 a1_3)) else (monikerlaw8_ConstOrder.j0 k false a0_0 a0_1 a0_2 a0_3 a1_0 a1_1 a1_2 a1_3))) = some r := by rw [if_pos rfl] at H; exact H
            clear H
            have H := H1
            clear H1
            replace H := Option.bind_eq_some_iff.mp H
            obtain ⟨t270, A310, H⟩ := H
            replace H : (if t270 = true then ((consts_Less.f k a0_0 a0_1 a0_2 a0_3 a2_0 a2_1 a2_2 a2_3).bind fun t271 => (monikerlaw8_ConstOrder.j0 k (!t271) a0_0 a0_1 a0_2 a0_3 a1_0 a1_1 a1_2 a1_3)) else (monikerlaw8_ConstOrder.j0 k false a0_0 a0_1 a0_2 a0_3 a1_0 a1_1 a1_2 a1_3)) = some r := H
            have A31 := Aside0.mk A310
            clear A310
            by_cases c32 : t270 = true
            · subst c32
              have H1 : ((consts_Less.f k a0_0 a0_1 a0_2 a0_3 a2_0 a2_1 a2_2 a2_3).bind fun t271 => (monikerlaw8_ConstOrder.j0 k (!t271) a0_0 a0_1 a0_2 a0_3 a1_0 a1_1 a1_2 a1_3)) = some r := by rw [if_pos rfl] at H; exact H
              clear H
              have H := H1
              clear H1
              replace H := Option.bind_eq_some_iff.mp H
              obtain ⟨t271, A330, H⟩ := H
              replace H : (monikerlaw8_ConstOrder.j0 k (!t271) a0_0 a0_1 a0_2 a0_3 a1_0 a1_1 a1_2 a1_3) = some r := H
              have A33 := Aside0.mk A330
              clear A330
              have H' := Aside0.mk H
              clear H
              have hnb34 := NB263_264.out
              have hnc34 := NB264_263.out
              have hnb35 := NB263_265.out
              have hnc35 := NB265_263.out
              have hcz36_0 : w7.cell? ⟨gb263, 0, none⟩ = some (.int .u8 a0_0) := (blk_cell BK263.out 0).trans rfl
              have hcz36_1 : w7.cell? ⟨gb263, 1, none⟩ = some (.bool a0_1) := (blk_cell BK263.out 1).trans rfl
              have hcz36_2 : w7.cell? ⟨gb263, 2, none⟩ = some (.int .i64 a0_2) := (blk_cell BK263.out 2).trans rfl
              have hcz36_3 : w7.cell? ⟨gb263, 3, none⟩ = some (.string a0_3) := (blk_cell BK263.out 3).trans rfl
              have hfz36_0 := blk_frozen BK263.out 0
              have hfz36_1 := blk_frozen BK263.out 1
              have hfz36_2 := blk_frozen BK263.out 2
              have hfz36_3 := blk_frozen BK263.out 3
              go_wp2_with (first | ((with_reducible refine gate_callee (f := 12) rfl ?_); refine goesL_ (some 11) rfl rfl Tryd.func12 (by kernel_rfl) rfl #[.agg #[.int .u8 a0_0, .bool a0_1, .int .i64 a0_2, .string a0_3], .agg #[.int .u8 a0_0, .bool a0_1, .int .i64 a0_2, .string a0_3]] rfl (by (try simp only [List.map_toArray, List.map_cons, List.map_nil]); first | done | rfl | (simp only [List.length_drop, List.length_take]; rfl)) ?_; (with_reducible refine (consts_Less.calls k a0_0 a0_1 a0_2 a0_3 a0_0 a0_1 a0_2 a0_3 false _ A8.out).mono ?_); rintro e w37 ⟨rfl, hb⟩; refine ⟨_, rfl, ?_⟩; have n0_ := Aside0.mk (blk_below (g := gb263) (o := .cells #[.int .u8 a0_0, .bool a0_1, .int .i64 a0_2, .string a0_3] 25 (0, 0)) (by (with_reducible repeat (first | refine blk_drewN ?_ _ | refine blk_drew ?_ | refine blk_alloc ?_ _)); exact BK263.out) hb); have n1_ := Aside0.mk (blk_below (g := gb264) (o := .cells #[.int .u8 a1_0, .bool a1_1, .int .i64 a1_2, .string a1_3] 25 (0, 0)) (by (with_reducible repeat (first | refine blk_drewN ?_ _ | refine blk_drew ?_ | refine blk_alloc ?_ _)); exact BK264.out) hb); have n2_ := Aside0.mk (blk_below (g := gb265) (o := .cells #[.int .u8 a2_0, .bool a2_1, .int .i64 a2_2, .string a2_3] 25 (0, 0)) (by (with_reducible repeat (first | refine blk_drewN ?_ _ | refine blk_drew ?_ | refine blk_alloc ?_ _)); exact BK265.out) hb); have n3_ := Aside0.mk (below_step (by repeat (first | (with_reducible first | exact HB.out | apply below_alloc | apply pw_below_drewN | apply below_drew1 | refine below_set ?_ GE263.out | refine below_set ?_ GE264.out | refine below_set ?_ GE265.out) | exact HB.out)) hb); clear BK263; clear BK264; clear BK265; clear HB; have BK263 := n0_; have BK264 := n1_; have BK265 := n2_; have HB := n3_; clear n0_ n1_ n2_ n3_; (try clear hb); (try clear hb2); (try clear hk); (try clear hi); (try have hcy0_0 : w37.cell? ⟨gb263, 0, none⟩ = some (.int .u8 a0_0) := (blk_cell BK263.out 0).trans rfl); (try have hcy0_1 : w37.cell? ⟨gb263, 1, none⟩ = some (.bool a0_1) := (blk_cell BK263.out 1).trans rfl); (try have hcy0_2 : w37.cell? ⟨gb263, 2, none⟩ = some (.int .i64 a0_2) := (blk_cell BK263.out 2).trans rfl); (try have hcy0_3 : w37.cell? ⟨gb263, 3, none⟩ = some (.string a0_3) := (blk_cell BK263.out 3).trans rfl); (try have hcy1_0 : w37.cell? ⟨gb264, 0, none⟩ = some (.int .u8 a1_0) := (blk_cell BK264.out 0).trans rfl); (try have hcy1_1 : w37.cell? ⟨gb264, 1, none⟩ = some (.bool a1_1) := (blk_cell BK264.out 1).trans rfl); (try have hcy1_2 : w37.cell? ⟨gb264, 2, none⟩ = some (.int .i64 a1_2) := (blk_cell BK264.out 2).trans rfl); (try have hcy1_3 : w37.cell? ⟨gb264, 3, none⟩ = some (.string a1_3) := (blk_cell BK264.out 3).trans rfl); (try have hcy2_0 : w37.cell? ⟨gb265, 0, none⟩ = some (.int .u8 a2_0) := (blk_cell BK265.out 0).trans rfl); (try have hcy2_1 : w37.cell? ⟨gb265, 1, none⟩ = some (.bool a2_1) := (blk_cell BK265.out 1).trans rfl); (try have hcy2_2 : w37.cell? ⟨gb265, 2, none⟩ = some (.int .i64 a2_2) := (blk_cell BK265.out 2).trans rfl); (try have hcy2_3 : w37.cell? ⟨gb265, 3, none⟩ = some (.string a2_3) := (blk_cell BK265.out 3).trans rfl); have hcz38_0 : w37.cell? ⟨gb263, 0, none⟩ = some (.int .u8 a0_0) := (blk_cell BK263.out 0).trans rfl; have hcz38_1 : w37.cell? ⟨gb263, 1, none⟩ = some (.bool a0_1) := (blk_cell BK263.out 1).trans rfl; have hcz38_2 : w37.cell? ⟨gb263, 2, none⟩ = some (.int .i64 a0_2) := (blk_cell BK263.out 2).trans rfl; have hcz38_3 : w37.cell? ⟨gb263, 3, none⟩ = some (.string a0_3) := (blk_cell BK263.out 3).trans rfl; have hfz38_0 := blk_frozen BK263.out 0; have hfz38_1 := blk_frozen BK263.out 1; have hfz38_2 := blk_frozen BK263.out 2; have hfz38_3 := blk_frozen BK263.out 3; have hnb39 := NB264_265.out; have hnc39 := NB265_264.out; have hcz40_0 : w37.cell? ⟨gb264, 0, none⟩ = some (.int .u8 a1_0) := (blk_cell BK264.out 0).trans rfl; have hcz40_1 : w37.cell? ⟨gb264, 1, none⟩ = some (.bool a1_1) := (blk_cell BK264.out 1).trans rfl; have hcz40_2 : w37.cell? ⟨gb264, 2, none⟩ = some (.int .i64 a1_2) := (blk_cell BK264.out 2).trans rfl; have hcz40_3 : w37.cell? ⟨gb264, 3, none⟩ = some (.string a1_3) := (blk_cell BK264.out 3).trans rfl; have hfz40_0 := blk_frozen BK264.out 0; have hfz40_1 := blk_frozen BK264.out 1; have hfz40_2 := blk_frozen BK264.out 2; have hfz40_3 := blk_frozen BK264.out 3) | (go_at_call 12; (with_reducible refine (consts_Less.calls k a0_0 a0_1 a0_2 a0_3 a1_0 a1_1 a1_2 a1_3 true _ A14.out).mono ?_); rintro e w41 ⟨rfl, hb⟩; have n0_ := Aside0.mk (blk_below (g := gb263) (o := .cells #[.int .u8 a0_0, .bool a0_1, .int .i64 a0_2, .string a0_3] 25 (0, 0)) (by (with_reducible repeat (first | refine blk_drewN ?_ _ | refine blk_drew ?_ | refine blk_alloc ?_ _)); exact BK263.out) hb); have n1_ := Aside0.mk (blk_below (g := gb264) (o := .cells #[.int .u8 a1_0, .bool a1_1, .int .i64 a1_2, .string a1_3] 25 (0, 0)) (by (with_reducible repeat (first | refine blk_drewN ?_ _ | refine blk_drew ?_ | refine blk_alloc ?_ _)); exact BK264.out) hb); have n2_ := Aside0.mk (blk_below (g := gb265) (o := .cells #[.int .u8 a2_0, .bool a2_1, .int .i64 a2_2, .string a2_3] 25 (0, 0)) (by (with_reducible repeat (first | refine blk_drewN ?_ _ | refine blk_drew ?_ | refine blk_alloc ?_ _)); exact BK265.out) hb); have n3_ := Aside0.mk (below_step (by repeat (first | (with_reducible first | exact HB.out | apply below_alloc | apply pw_below_drewN | apply below_drew1 | refine below_set ?_ GE263.out | refine below_set ?_ GE264.out | refine below_set ?_ GE265.out) | exact HB.out)) hb); clear BK263; clear BK264; clear BK265; clear HB; have BK263 := n0_; have BK264 := n1_; have BK265 := n2_; have HB := n3_; clear n0_ n1_ n2_ n3_; (try clear hb); (try clear hb2); (try clear hk); (try clear hi); (try have hcy0_0 : w41.cell? ⟨gb263, 0, none⟩ = some (.int .u8 a0_0) := (blk_cell BK263.out 0).trans rfl); (try have hcy0_1 : w41.cell? ⟨gb263, 1, none⟩ = some (.bool a0_1) := (blk_cell BK263.out 1).trans rfl); (try have hcy0_2 : w41.cell? ⟨gb263, 2, none⟩ = some (.int .i64 a0_2) := (blk_cell BK263.out 2).trans rfl); (try have hcy0_3 : w41.cell? ⟨gb263, 3, none⟩ = some (.string a0_3) := (blk_cell BK263.out 3).trans rfl); (try have hcy1_0 : w41.cell? ⟨gb264, 0, none⟩ = some (.int .u8 a1_0) := (blk_cell BK264.out 0).trans rfl); (try have hcy1_1 : w41.cell? ⟨gb264, 1, none⟩ = some (.bool a1_1) := (blk_cell BK264.out 1).trans rfl); (try have hcy1_2 : w41.cell? ⟨gb264, 2, none⟩ = some (.int .i64 a1_2) := (blk_cell BK264.out 2).trans rfl); (try have hcy1_3 : w41.cell? ⟨gb264, 3, none⟩ = some (.string a1_3) := (blk_cell BK264.out 3).trans rfl); (try have hcy2_0 : w41.cell? ⟨gb265, 0, none⟩ = some (.int .u8 a2_0) := (blk_cell BK265.out 0).trans rfl); (try have hcy2_1 : w41.cell? ⟨gb265, 1, none⟩ = some (.bool a2_1) := (blk_cell BK265.out 1).trans rfl); (try have hcy2_2 : w41.cell? ⟨gb265, 2, none⟩ = some (.int .i64 a2_2) := (blk_cell BK265.out 2).trans rfl); (try have hcy2_3 : w41.cell? ⟨gb265, 3, none⟩ = some (.string a2_3) := (blk_cell BK265.out 3).trans rfl); have hcz42_0 : w41.cell? ⟨gb264, 0, none⟩ = some (.int .u8 a1_0) := (blk_cell BK264.out 0).trans rfl; have hcz42_1 : w41.cell? ⟨gb264, 1, none⟩ = some (.bool a1_1) := (blk_cell BK264.out 1).trans rfl; have hcz42_2 : w41.cell? ⟨gb264, 2, none⟩ = some (.int .i64 a1_2) := (blk_cell BK264.out 2).trans rfl; have hcz42_3 : w41.cell? ⟨gb264, 3, none⟩ = some (.string a1_3) := (blk_cell BK264.out 3).trans rfl; have hfz42_0 := blk_frozen BK264.out 0; have hfz42_1 := blk_frozen BK264.out 1; have hfz42_2 := blk_frozen BK264.out 2; have hfz42_3 := blk_frozen BK264.out 3; have hcz43_0 : w41.cell? ⟨gb263, 0, none⟩ = some (.int .u8 a0_0) := (blk_cell BK263.out 0).trans rfl; have hcz43_1 : w41.cell? ⟨gb263, 1, none⟩ = some (.bool a0_1) := (blk_cell BK263.out 1).trans rfl; have hcz43_2 : w41.cell? ⟨gb263, 2, none⟩ = some (.int .i64 a0_2) := (blk_cell BK263.out 2).trans rfl; have hcz43_3 : w41.cell? ⟨gb263, 3, none⟩ = some (.string a0_3) := (blk_cell BK263.out 3).trans rfl; have hfz43_0 := blk_frozen BK263.out 0; have hfz43_1 := blk_frozen BK263.out 1; have hfz43_2 := blk_frozen BK263.out 2; have hfz43_3 := blk_frozen BK263.out 3) | (go_at_call 12; (with_reducible refine (consts_Less.calls k a1_0 a1_1 a1_2 a1_3 a0_0 a0_1 a0_2 a0_3 false _ A16.out).mono ?_); rintro e w44 ⟨rfl, hb⟩; have n0_ := Aside0.mk (blk_below (g := gb263) (o := .cells #[.int .u8 a0_0, .bool a0_1, .int .i64 a0_2, .string a0_3] 25 (0, 0)) (by (with_reducible repeat (first | refine blk_drewN ?_ _ | refine blk_drew ?_ | refine blk_alloc ?_ _)); exact BK263.out) hb); have n1_ := Aside0.mk (blk_below (g := gb264) (o := .cells #[.int .u8 a1_0, .bool a1_1, .int .i64 a1_2, .string a1_3] 25 (0, 0)) (by (with_reducible repeat (first | refine blk_drewN ?_ _ | refine blk_drew ?_ | refine blk_alloc ?_ _)); exact BK264.out) hb); have n2_ := Aside0.mk (blk_below (g := gb265) (o := .cells #[.int .u8 a2_0, .bool a2_1, .int .i64 a2_2, .string a2_3] 25 (0, 0)) (by (with_reducible repeat (first | refine blk_drewN ?_ _ | refine blk_drew ?_ | refine blk_alloc ?_ _)); exact BK265.out) hb); have n3_ := Aside0.mk (below_step (by repeat (first | (with_reducible first | exact HB.out | apply below_alloc | apply pw_below_drewN | apply below_drew1 | refine below_set ?_ GE263.out | refine below_set ?_ GE264.out | refine below_set ?_ GE265.out) | exact HB.out)) hb); clear BK263; clear BK264; clear BK265; clear HB; have BK263 := n0_; have BK264 := n1_; have BK265 := n2_; have HB := n3_; clear n0_ n1_ n2_ n3_; (try clear hb); (try clear hb2); (try clear hk); (try clear hi); (try have hcy0_0 : w44.cell? ⟨gb263, 0, none⟩ = some (.int .u8 a0_0) := (blk_cell BK263.out 0).trans rfl); (try have hcy0_1 : w44.cell? ⟨gb263, 1, none⟩ = some (.bool a0_1) := (blk_cell BK263.out 1).trans rfl); (try have hcy0_2 : w44.cell? ⟨gb263, 2, none⟩ = some (.int .i64 a0_2) := (blk_cell BK263.out 2).trans rfl); (try have hcy0_3 : w44.cell? ⟨gb263, 3, none⟩ = some (.string a0_3) := (blk_cell BK263.out 3).trans rfl); (try have hcy1_0 : w44.cell? ⟨gb264, 0, none⟩ = some (.int .u8 a1_0) := (blk_cell BK264.out 0).trans rfl); (try have hcy1_1 : w44.cell? ⟨gb264, 1, none⟩ = some (.bool a1_1) := (blk_cell BK264.out 1).trans rfl); (try have hcy1_2 : w44.cell? ⟨gb264, 2, none⟩ = some (.int .i64 a1_2) := (blk_cell BK264.out 2).trans rfl); (try have hcy1_3 : w44.cell? ⟨gb264, 3, none⟩ = some (.string a1_3) := (blk_cell BK264.out 3).trans rfl); (try have hcy2_0 : w44.cell? ⟨gb265, 0, none⟩ = some (.int .u8 a2_0) := (blk_cell BK265.out 0).trans rfl); (try have hcy2_1 : w44.cell? ⟨gb265, 1, none⟩ = some (.bool a2_1) := (blk_cell BK265.out 1).trans rfl); (try have hcy2_2 : w44.cell? ⟨gb265, 2, none⟩ = some (.int .i64 a2_2) := (blk_cell BK265.out 2).trans rfl); (try have hcy2_3 : w44.cell? ⟨gb265, 3, none⟩ = some (.string a2_3) := (blk_cell BK265.out 3).trans rfl); have hcz45_0 : w44.cell? ⟨gb263, 0, none⟩ = some (.int .u8 a0_0) := (blk_cell BK263.out 0).trans rfl; have hcz45_1 : w44.cell? ⟨gb263, 1, none⟩ = some (.bool a0_1) := (blk_cell BK263.out 1).trans rfl; have hcz45_2 : w44.cell? ⟨gb263, 2, none⟩ = some (.int .i64 a0_2) := (blk_cell BK263.out 2).trans rfl; have hcz45_3 : w44.cell? ⟨gb263, 3, none⟩ = some (.string a0_3) := (blk_cell BK263.out 3).trans rfl; have hfz45_0 := blk_frozen BK263.out 0; have hfz45_1 := blk_frozen BK263.out 1; have hfz45_2 := blk_frozen BK263.out 2; have hfz45_3 := blk_frozen BK263.out 3; have hcz46_0 : w44.cell? ⟨gb264, 0, none⟩ = some (.int .u8 a1_0) := (blk_cell BK264.out 0).trans rfl; have hcz46_1 : w44.cell? ⟨gb264, 1, none⟩ = some (.bool a1_1) := (blk_cell BK264.out 1).trans rfl; have hcz46_2 : w44.cell? ⟨gb264, 2, none⟩ = some (.int .i64 a1_2) := (blk_cell BK264.out 2).trans rfl; have hcz46_3 : w44.cell? ⟨gb264, 3, none⟩ = some (.string a1_3) := (blk_cell BK264.out 3).trans rfl; have hfz46_0 := blk_frozen BK264.out 0; have hfz46_1 := blk_frozen BK264.out 1; have hfz46_2 := blk_frozen BK264.out 2; have hfz46_3 := blk_frozen BK264.out 3) | (go_at_call 12; (with_reducible refine (consts_Less.calls k a0_0 a0_1 a0_2 a0_3 a1_0 a1_1 a1_2 a1_3 true _ A29.out).mono ?_); rintro e w47 ⟨rfl, hb⟩; have n0_ := Aside0.mk (blk_below (g := gb263) (o := .cells #[.int .u8 a0_0, .bool a0_1, .int .i64 a0_2, .string a0_3] 25 (0, 0)) (by (with_reducible repeat (first | refine blk_drewN ?_ _ | refine blk_drew ?_ | refine blk_alloc ?_ _)); exact BK263.out) hb); have n1_ := Aside0.mk (blk_below (g := gb264) (o := .cells #[.int .u8 a1_0, .bool a1_1, .int .i64 a1_2, .string a1_3] 25 (0, 0)) (by (with_reducible repeat (first | refine blk_drewN ?_ _ | refine blk_drew ?_ | refine blk_alloc ?_ _)); exact BK264.out) hb); have n2_ := Aside0.mk (blk_below (g := gb265) (o := .cells #[.int .u8 a2_0, .bool a2_1, .int .i64 a2_2, .string a2_3] 25 (0, 0)) (by (with_reducible repeat (first | refine blk_drewN ?_ _ | refine blk_drew ?_ | refine blk_alloc ?_ _)); exact BK265.out) hb); have n3_ := Aside0.mk (below_step (by repeat (first | (with_reducible first | exact HB.out | apply below_alloc | apply pw_below_drewN | apply below_drew1 | refine below_set ?_ GE263.out | refine below_set ?_ GE264.out | refine below_set ?_ GE265.out) | exact HB.out)) hb); clear BK263; clear BK264; clear BK265; clear HB; have BK263 := n0_; have BK264 := n1_; have BK265 := n2_; have HB := n3_; clear n0_ n1_ n2_ n3_; (try clear hb); (try clear hb2); (try clear hk); (try clear hi); (try have hcy0_0 : w47.cell? ⟨gb263, 0, none⟩ = some (.int .u8 a0_0) := (blk_cell BK263.out 0).trans rfl); (try have hcy0_1 : w47.cell? ⟨gb263, 1, none⟩ = some (.bool a0_1) := (blk_cell BK263.out 1).trans rfl); (try have hcy0_2 : w47.cell? ⟨gb263, 2, none⟩ = some (.int .i64 a0_2) := (blk_cell BK263.out 2).trans rfl); (try have hcy0_3 : w47.cell? ⟨gb263, 3, none⟩ = some (.string a0_3) := (blk_cell BK263.out 3).trans rfl); (try have hcy1_0 : w47.cell? ⟨gb264, 0, none⟩ = some (.int .u8 a1_0) := (blk_cell BK264.out 0).trans rfl); (try have hcy1_1 : w47.cell? ⟨gb264, 1, none⟩ = some (.bool a1_1) := (blk_cell BK264.out 1).trans rfl); (try have hcy1_2 : w47.cell? ⟨gb264, 2, none⟩ = some (.int .i64 a1_2) := (blk_cell BK264.out 2).trans rfl); (try have hcy1_3 : w47.cell? ⟨gb264, 3, none⟩ = some (.string a1_3) := (blk_cell BK264.out 3).trans rfl); (try have hcy2_0 : w47.cell? ⟨gb265, 0, none⟩ = some (.int .u8 a2_0) := (blk_cell BK265.out 0).trans rfl); (try have hcy2_1 : w47.cell? ⟨gb265, 1, none⟩ = some (.bool a2_1) := (blk_cell BK265.out 1).trans rfl); (try have hcy2_2 : w47.cell? ⟨gb265, 2, none⟩ = some (.int .i64 a2_2) := (blk_cell BK265.out 2).trans rfl); (try have hcy2_3 : w47.cell? ⟨gb265, 3, none⟩ = some (.string a2_3) := (blk_cell BK265.out 3).trans rfl); have hcz48_0 : w47.cell? ⟨gb264, 0, none⟩ = some (.int .u8 a1_0) := (blk_cell BK264.out 0).trans rfl; have hcz48_1 : w47.cell? ⟨gb264, 1, none⟩ = some (.bool a1_1) := (blk_cell BK264.out 1).trans rfl; have hcz48_2 : w47.cell? ⟨gb264, 2, none⟩ = some (.int .i64 a1_2) := (blk_cell BK264.out 2).trans rfl; have hcz48_3 : w47.cell? ⟨gb264, 3, none⟩ = some (.string a1_3) := (blk_cell BK264.out 3).trans rfl; have hfz48_0 := blk_frozen BK264.out 0; have hfz48_1 := blk_frozen BK264.out 1; have hfz48_2 := blk_frozen BK264.out 2; have hfz48_3 := blk_frozen BK264.out 3; have hcz49_0 : w47.cell? ⟨gb265, 0, none⟩ = some (.int .u8 a2_0) := (blk_cell BK265.out 0).trans rfl; have hcz49_1 : w47.cell? ⟨gb265, 1, none⟩ = some (.bool a2_1) := (blk_cell BK265.out 1).trans rfl; have hcz49_2 : w47.cell? ⟨gb265, 2, none⟩ = some (.int .i64 a2_2) := (blk_cell BK265.out 2).trans rfl; have hcz49_3 : w47.cell? ⟨gb265, 3, none⟩ = some (.string a2_3) := (blk_cell BK265.out 3).trans rfl; have hfz49_0 := blk_frozen BK265.out 0; have hfz49_1 := blk_frozen BK265.out 1; have hfz49_2 := blk_frozen BK265.out 2; have hfz49_3 := blk_frozen BK265.out 3) | (go_at_call 12; (with_reducible refine (consts_Less.calls k a1_0 a1_1 a1_2 a1_3 a2_0 a2_1 a2_2 a2_3 true _ A31.out).mono ?_); rintro e w50 ⟨rfl, hb⟩; have n0_ := Aside0.mk (blk_below (g := gb263) (o := .cells #[.int .u8 a0_0, .bool a0_1, .int .i64 a0_2, .string a0_3] 25 (0, 0)) (by (with_reducible repeat (first | refine blk_drewN ?_ _ | refine blk_drew ?_ | refine blk_alloc ?_ _)); exact BK263.out) hb); have n1_ := Aside0.mk (blk_below (g := gb264) (o := .cells #[.int .u8 a1_0, .bool a1_1, .int .i64 a1_2, .string a1_3] 25 (0, 0)) (by (with_reducible repeat (first | refine blk_drewN ?_ _ | refine blk_drew ?_ | refine blk_alloc ?_ _)); exact BK264.out) hb); have n2_ := Aside0.mk (blk_below (g := gb265) (o := .cells #[.int .u8 a2_0, .bool a2_1, .int .i64 a2_2, .string a2_3] 25 (0, 0)) (by (with_reducible repeat (first | refine blk_drewN ?_ _ | refine blk_drew ?_ | refine blk_alloc ?_ _)); exact BK265.out) hb); have n3_ := Aside0.mk (below_step (by repeat (first | (with_reducible first | exact HB.out | apply below_alloc | apply pw_below_drewN | apply below_drew1 | refine below_set ?_ GE263.out | refine below_set ?_ GE264.out | refine below_set ?_ GE265.out) | exact HB.out)) hb); clear BK263; clear BK264; clear BK265; clear HB; have BK263 := n0_; have BK264 := n1_; have BK265 := n2_; have HB := n3_; clear n0_ n1_ n2_ n3_; (try clear hb); (try clear hb2); (try clear hk); (try clear hi); (try have hcy0_0 : w50.cell? ⟨gb263, 0, none⟩ = some (.int .u8 a0_0) := (blk_cell BK263.out 0).trans rfl); (try have hcy0_1 : w50.cell? ⟨gb263, 1, none⟩ = some (.bool a0_1) := (blk_cell BK263.out 1).trans rfl); (try have hcy0_2 : w50.cell? ⟨gb263, 2, none⟩ = some (.int .i64 a0_2) := (blk_cell BK263.out 2).trans rfl); (try have hcy0_3 : w50.cell? ⟨gb263, 3, none⟩ = some (.string a0_3) := (blk_cell BK263.out 3).trans rfl); (try have hcy1_0 : w50.cell? ⟨gb264, 0, none⟩ = some (.int .u8 a1_0) := (blk_cell BK264.out 0).trans rfl); (try have hcy1_1 : w50.cell? ⟨gb264, 1, none⟩ = some (.bool a1_1) := (blk_cell BK264.out 1).trans rfl); (try have hcy1_2 : w50.cell? ⟨gb264, 2, none⟩ = some (.int .i64 a1_2) := (blk_cell BK264.out 2).trans rfl); (try have hcy1_3 : w50.cell? ⟨gb264, 3, none⟩ = some (.string a1_3) := (blk_cell BK264.out 3).trans rfl); (try have hcy2_0 : w50.cell? ⟨gb265, 0, none⟩ = some (.int .u8 a2_0) := (blk_cell BK265.out 0).trans rfl); (try have hcy2_1 : w50.cell? ⟨gb265, 1, none⟩ = some (.bool a2_1) := (blk_cell BK265.out 1).trans rfl); (try have hcy2_2 : w50.cell? ⟨gb265, 2, none⟩ = some (.int .i64 a2_2) := (blk_cell BK265.out 2).trans rfl); (try have hcy2_3 : w50.cell? ⟨gb265, 3, none⟩ = some (.string a2_3) := (blk_cell BK265.out 3).trans rfl); have hcz51_0 : w50.cell? ⟨gb263, 0, none⟩ = some (.int .u8 a0_0) := (blk_cell BK263.out 0).trans rfl; have hcz51_1 : w50.cell? ⟨gb263, 1, none⟩ = some (.bool a0_1) := (blk_cell BK263.out 1).trans rfl; have hcz51_2 : w50.cell? ⟨gb263, 2, none⟩ = some (.int .i64 a0_2) := (blk_cell BK263.out 2).trans rfl; have hcz51_3 : w50.cell? ⟨gb263, 3, none⟩ = some (.string a0_3) := (blk_cell BK263.out 3).trans rfl; have hfz51_0 := blk_frozen BK263.out 0; have hfz51_1 := blk_frozen BK263.out 1; have hfz51_2 := blk_frozen BK263.out 2; have hfz51_3 := blk_frozen BK263.out 3; have hcz52_0 : w50.cell? ⟨gb265, 0, none⟩ = some (.int .u8 a2_0) := (blk_cell BK265.out 0).trans rfl; have hcz52_1 : w50.cell? ⟨gb265, 1, none⟩ = some (.bool a2_1) := (blk_cell BK265.out 1).trans rfl; have hcz52_2 : w50.cell? ⟨gb265, 2, none⟩ = some (.int .i64 a2_2) := (blk_cell BK265.out 2).trans rfl; have hcz52_3 : w50.cell? ⟨gb265, 3, none⟩ = some (.string a2_3) := (blk_cell BK265.out 3).trans rfl; have hfz52_0 := blk_frozen BK265.out 0; have hfz52_1 := blk_frozen BK265.out 1; have hfz52_2 := blk_frozen BK265.out 2; have hfz52_3 := blk_frozen BK265.out 3) | (go_at_call 12; (with_reducible refine (consts_Less.calls k a0_0 a0_1 a0_2 a0_3 a2_0 a2_1 a2_2 a2_3 t271 _ A33.out).mono ?_); rintro e w53 ⟨rfl, hb⟩; have n0_ := Aside0.mk (blk_below (g := gb263) (o := .cells #[.int .u8 a0_0, .bool a0_1, .int .i64 a0_2, .string a0_3] 25 (0, 0)) (by (with_reducible repeat (first | refine blk_drewN ?_ _ | refine blk_drew ?_ | refine blk_alloc ?_ _)); exact BK263.out) hb); have n1_ := Aside0.mk (blk_below (g := gb264) (o := .cells #[.int .u8 a1_0, .bool a1_1, .int .i64 a1_2, .string a1_3] 25 (0, 0)) (by (with_reducible repeat (first | refine blk_drewN ?_ _ | refine blk_drew ?_ | refine blk_alloc ?_ _)); exact BK264.out) hb); have n2_ := Aside0.mk (blk_below (g := gb265) (o := .cells #[.int .u8 a2_0, .bool a2_1, .int .i64 a2_2, .string a2_3] 25 (0, 0)) (by (with_reducible repeat (first | refine blk_drewN ?_ _ | refine blk_drew ?_ | refine blk_alloc ?_ _)); exact BK265.out) hb); have n3_ := Aside0.mk (below_step (by repeat (first | (with_reducible first | exact HB.out | apply below_alloc | apply pw_below_drewN | apply below_drew1 | refine below_set ?_ GE263.out | refine below_set ?_ GE264.out | refine below_set ?_ GE265.out) | exact HB.out)) hb); clear BK263; clear BK264; clear BK265; clear HB; have BK263 := n0_; have BK264 := n1_; have BK265 := n2_; have HB := n3_; clear n0_ n1_ n2_ n3_; (try clear hb); (try clear hb2); (try clear hk); (try clear hi)))
              go_meet
              case rel => exact ⟨_, (!t271), (by first | rfl | (simp; done) | (simp [*]; done)), H', ⟨by first | omega | exact Nat.le_refl _⟩, ⟨by (with_reducible repeat (first | refine blk_drewN ?_ _ | refine blk_drew ?_ | refine blk_alloc ?_ _)); exact BK263.out⟩, ⟨by (with_reducible repeat (first | refine blk_drewN ?_ _ | refine blk_drew ?_ | refine blk_alloc ?_ _)); exact BK264.out⟩, ⟨by (with_reducible repeat (first | refine blk_drewN ?_ _ | refine blk_drew ?_ | refine blk_alloc ?_ _)); exact BK265.out⟩, ⟨by repeat (first | (with_reducible first | exact HB.out | apply below_alloc | apply pw_below_drewN | apply below_drew1 | refine below_set ?_ GE263.out | refine below_set ?_ GE264.out | refine below_set ?_ GE265.out) | exact HB.out)⟩⟩
            · replace c32 := Bool.eq_false_iff.mpr c32
              subst c32
              have H1 : (monikerlaw8_ConstOrder.j0 k false a0_0 a0_1 a0_2 a0_3 a1_0 a1_1 a1_2 a1_3) = some r := by rw [if_neg (show ¬ (false = true) by decide)] at H; exact H
              clear H
              have H := H1
              clear H1
              have H' := Aside0.mk H
              clear H
              have hnb54 := NB263_264.out
              have hnc54 := NB264_263.out
              have hnb55 := NB263_265.out
              have hnc55 := NB265_263.out
              have hcz56_0 : w7.cell? ⟨gb263, 0, none⟩ = some (.int .u8 a0_0) := (blk_cell BK263.out 0).trans rfl
              have hcz56_1 : w7.cell? ⟨gb263, 1, none⟩ = some (.bool a0_1) := (blk_cell BK263.out 1).trans rfl
              have hcz56_2 : w7.cell? ⟨gb263, 2, none⟩ = some (.int .i64 a0_2) := (blk_cell BK263.out 2).trans rfl
              have hcz56_3 : w7.cell? ⟨gb263, 3, none⟩ = some (.string a0_3) := (blk_cell BK263.out 3).trans rfl
              have hfz56_0 := blk_frozen BK263.out 0
              have hfz56_1 := blk_frozen BK263.out 1
              have hfz56_2 := blk_frozen BK263.out 2
              have hfz56_3 := blk_frozen BK263.out 3
              go_wp2_with (first | ((with_reducible refine gate_callee (f := 12) rfl ?_); refine goesL_ (some 11) rfl rfl Tryd.func12 (by kernel_rfl) rfl #[.agg #[.int .u8 a0_0, .bool a0_1, .int .i64 a0_2, .string a0_3], .agg #[.int .u8 a0_0, .bool a0_1, .int .i64 a0_2, .string a0_3]] rfl (by (try simp only [List.map_toArray, List.map_cons, List.map_nil]); first | done | rfl | (simp only [List.length_drop, List.length_take]; rfl)) ?_; (with_reducible refine (consts_Less.calls k a0_0 a0_1 a0_2 a0_3 a0_0 a0_1 a0_2 a0_3 false _ A8.out).mono ?_); rintro e w57 ⟨rfl, hb⟩; refine ⟨_, rfl, ?_⟩; have n0_ := Aside0.mk (blk_below (g := gb263) (o := .cells #[.int .u8 a0_0, .bool a0_1, .int .i64 a0_2, .string a0_3] 25 (0, 0)) (by (with_reducible repeat (first | refine blk_drewN ?_ _ | refine blk_drew ?_ | refine blk_alloc ?_ _)); exact BK263.out) hb); have n1_ := Aside0.mk (blk_below (g := gb264) (o := .cells #[.int .u8 a1_0, .bool a1_1, .int .i64 a1_2, .string a1_3] 25 (0, 0)) (by (with_reducible repeat (first | refine blk_drewN ?_ _ | refine blk_drew ?_ | refine blk_alloc ?_ _)); exact BK264.out) hb); have n2_ := Aside0.mk (blk_below (g := gb265) (o := .cells #[.int .u8 a2_0, .bool a2_1, .int .i64 a2_2, .string a2_3] 25 (0, 0)) (by (with_reducible repeat (first | refine blk_drewN ?_ _ | refine blk_drew ?_ | refine blk_alloc ?_ _)); exact BK265.out) hb); have n3_ := Aside0.mk (below_step (by repeat (first | (with_reducible first | exact HB.out | apply below_alloc | apply pw_below_drewN | apply below_drew1 | refine below_set ?_ GE263.out | refine below_set ?_ GE264.out | refine below_set ?_ GE265.out) | exact HB.out)) hb); clear BK263; clear BK264; clear BK265; clear HB; have BK263 := n0_; have BK264 := n1_; have BK265 := n2_; have HB := n3_; clear n0_ n1_ n2_ n3_; (try clear hb); (try clear hb2); (try clear hk); (try clear hi); (try have hcy0_0 : w57.cell? ⟨gb263, 0, none⟩ = some (.int .u8 a0_0) := (blk_cell BK263.out 0).trans rfl); (try have hcy0_1 : w57.cell? ⟨gb263, 1, none⟩ = some (.bool a0_1) := (blk_cell BK263.out 1).trans rfl); (try have hcy0_2 : w57.cell? ⟨gb263, 2, none⟩ = some (.int .i64 a0_2) := (blk_cell BK263.out 2).trans rfl); (try have hcy0_3 : w57.cell? ⟨gb263, 3, none⟩ = some (.string a0_3) := (blk_cell BK263.out 3).trans rfl); (try have hcy1_0 : w57.cell? ⟨gb264, 0, none⟩ = some (.int .u8 a1_0) := (blk_cell BK264.out 0).trans rfl); (try have hcy1_1 : w57.cell? ⟨gb264, 1, none⟩ = some (.bool a1_1) := (blk_cell BK264.out 1).trans rfl); (try have hcy1_2 : w57.cell? ⟨gb264, 2, none⟩ = some (.int .i64 a1_2) := (blk_cell BK264.out 2).trans rfl); (try have hcy1_3 : w57.cell? ⟨gb264, 3, none⟩ = some (.string a1_3) := (blk_cell BK264.out 3).trans rfl); (try have hcy2_0 : w57.cell? ⟨gb265, 0, none⟩ = some (.int .u8 a2_0) := (blk_cell BK265.out 0).trans rfl); (try have hcy2_1 : w57.cell? ⟨gb265, 1, none⟩ = some (.bool a2_1) := (blk_cell BK265.out 1).trans rfl); (try have hcy2_2 : w57.cell? ⟨gb265, 2, none⟩ = some (.int .i64 a2_2) := (blk_cell BK265.out 2).trans rfl); (try have hcy2_3 : w57.cell? ⟨gb265, 3, none⟩ = some (.string a2_3) := (blk_cell BK265.out 3).trans rfl); have hcz58_0 : w57.cell? ⟨gb263, 0, none⟩ = some (.int .u8 a0_0) := (blk_cell BK263.out 0).trans rfl; have hcz58_1 : w57.cell? ⟨gb263, 1, none⟩ = some (.bool a0_1) := (blk_cell BK263.out 1).trans rfl; have hcz58_2 : w57.cell? ⟨gb263, 2, none⟩ = some (.int .i64 a0_2) := (blk_cell BK263.out 2).trans rfl; have hcz58_3 : w57.cell? ⟨gb263, 3, none⟩ = some (.string a0_3) := (blk_cell BK263.out 3).trans rfl; have hfz58_0 := blk_frozen BK263.out 0; have hfz58_1 := blk_frozen BK263.out 1; have hfz58_2 := blk_frozen BK263.out 2; have hfz58_3 := blk_frozen BK263.out 3; have hnb59 := NB264_265.out; have hnc59 := NB265_264.out; have hcz60_0 : w57.cell? ⟨gb264, 0, none⟩ = some (.int .u8 a1_0) := (blk_cell BK264.out 0).trans rfl; have hcz60_1 : w57.cell? ⟨gb264, 1, none⟩ = some (.bool a1_1) := (blk_cell BK264.out 1).trans rfl; have hcz60_2 : w57.cell? ⟨gb264, 2, none⟩ = some (.int .i64 a1_2) := (blk_cell BK264.out 2).trans rfl; have hcz60_3 : w57.cell? ⟨gb264, 3, none⟩ = some (.string a1_3) := (blk_cell BK264.out 3).trans rfl; have hfz60_0 := blk_frozen BK264.out 0; have hfz60_1 := blk_frozen BK264.out 1; have hfz60_2 := blk_frozen BK264.out 2; have hfz60_3 := blk_frozen BK264.out 3) | (go_at_call 12; (with_reducible refine (consts_Less.calls k a0_0 a0_1 a0_2 a0_3 a1_0 a1_1 a1_2 a1_3 true _ A14.out).mono ?_); rintro e w61 ⟨rfl, hb⟩; have n0_ := Aside0.mk (blk_below (g := gb263) (o := .cells #[.int .u8 a0_0, .bool a0_1, .int .i64 a0_2, .string a0_3] 25 (0, 0)) (by (with_reducible repeat (first | refine blk_drewN ?_ _ | refine blk_drew ?_ | refine blk_alloc ?_ _)); exact BK263.out) hb); have n1_ := Aside0.mk (blk_below (g := gb264) (o := .cells #[.int .u8 a1_0, .bool a1_1, .int .i64 a1_2, .string a1_3] 25 (0, 0)) (by (with_reducible repeat (first | refine blk_drewN ?_ _ | refine blk_drew ?_ | refine blk_alloc ?_ _)); exact BK264.out) hb); have n2_ := Aside0.mk (blk_below (g := gb265) (o := .cells #[.int .u8 a2_0, .bool a2_1, .int .i64 a2_2, .string a2_3] 25 (0, 0)) (by (with_reducible repeat (first | refine blk_drewN ?_ _ | refine blk_drew ?_ | refine blk_alloc ?_ _)); exact BK265.out) hb); have n3_ := Aside0.mk (below_step (by repeat (first | (with_reducible first | exact HB.out | apply below_alloc | apply pw_below_drewN | apply below_drew1 | refine below_set ?_ GE263.out | refine below_set ?_ GE264.out | refine below_set ?_ GE265.out) | exact HB.out)) hb); clear BK263; clear BK264; clear BK265; clear HB; have BK263 := n0_; have BK264 := n1_; have BK265 := n2_; have HB := n3_; clear n0_ n1_ n2_ n3_; (try clear hb); (try clear hb2); (try clear hk); (try clear hi); (try have hcy0_0 : w61.cell? ⟨gb263, 0, none⟩ = some (.int .u8 a0_0) := (blk_cell BK263.out 0).trans rfl); (try have hcy0_1 : w61.cell? ⟨gb263, 1, none⟩ = some (.bool a0_1) := (blk_cell BK263.out 1).trans rfl); (try have hcy0_2 : w61.cell? ⟨gb263, 2, none⟩ = some (.int .i64 a0_2) := (blk_cell BK263.out 2).trans rfl); (try have hcy0_3 : w61.cell? ⟨gb263, 3, none⟩ = some (.string a0_3) := (blk_cell BK263.out 3).trans rfl); (try have hcy1_0 : w61.cell? ⟨gb264, 0, none⟩ = some (.int .u8 a1_0) := (blk_cell BK264.out 0).trans rfl); (try have hcy1_1 : w61.cell? ⟨gb264, 1, none⟩ = some (.bool a1_1) := (blk_cell BK264.out 1).trans rfl); (try have hcy1_2 : w61.cell? ⟨gb264, 2, none⟩ = some (.int .i64 a1_2) := (blk_cell BK264.out 2).trans rfl); (try have hcy1_3 : w61.cell? ⟨gb264, 3, none⟩ = some (.string a1_3) := (blk_cell BK264.out 3).trans rfl); (try have hcy2_0 : w61.cell? ⟨gb265, 0, none⟩ = some (.int .u8 a2_0) := (blk_cell BK265.out 0).trans rfl); (try have hcy2_1 : w61.cell? ⟨gb265, 1, none⟩ = some (.bool a2_1) := (blk_cell BK265.out 1).trans rfl); (try have hcy2_2 : w61.cell? ⟨gb265, 2, none⟩ = some (.int .i64 a2_2) := (blk_cell BK265.out 2).trans rfl); (try have hcy2_3 : w61.cell? ⟨gb265, 3, none⟩ = some (.string a2_3) := (blk_cell BK265.out 3).trans rfl); have hcz62_0 : w61.cell? ⟨gb264, 0, none⟩ = some (.int .u8 a1_0) := (blk_cell BK264.out 0).trans rfl; have hcz62_1 : w61.cell? ⟨gb264, 1, none⟩ = some (.bool a1_1) := (blk_cell BK264.out 1).trans rfl; have hcz62_2 : w61.cell? ⟨gb264, 2, none⟩ = some (.int .i64 a1_2) := (blk_cell BK264.out 2).trans rfl; have hcz62_3 : w61.cell? ⟨gb264, 3, none⟩ = some (.string a1_3) := (blk_cell BK264.out 3).trans rfl; have hfz62_0 := blk_frozen BK264.out 0; have hfz62_1 := blk_frozen BK264.out 1; have hfz62_2 := blk_frozen BK264.out 2; have hfz62_3 := blk_frozen BK264.out 3; have hcz63_0 : w61.cell? ⟨gb263, 0, none⟩ = some (.int .u8 a0_0) := (blk_cell BK263.out 0).trans rfl; have hcz63_1 : w61.cell? ⟨gb263, 1, none⟩ = some (.bool a0_1) := (blk_cell BK263.out 1).trans rfl; have hcz63_2 : w61.cell? ⟨gb263, 2, none⟩ = some (.int .i64 a0_2) := (blk_cell BK263.out 2).trans rfl; have hcz63_3 : w61.cell? ⟨gb263, 3, none⟩ = some (.string a0_3) := (blk_cell BK263.out 3).trans rfl; have hfz63_0 := blk_frozen BK263.out 0; have hfz63_1 := blk_frozen BK263.out 1; have hfz63_2 := blk_frozen BK263.out 2; have hfz63_3 := blk_frozen BK263.out 3) | (go_at_call 12; (with_reducible refine (consts_Less.calls k a1_0 a1_1 a1_2 a1_3 a0_0 a0_1 a0_2 a0_3 false _ A16.out).mono ?_); rintro e w64 ⟨rfl, hb⟩; have n0_ := Aside0.mk (blk_below (g := gb263) (o := .cells #[.int .u8 a0_0, .bool a0_1, .int .i64 a0_2, .string a0_3] 25 (0, 0)) (by (with_reducible repeat (first | refine blk_drewN ?_ _ | refine blk_drew ?_ | refine blk_alloc ?_ _)); exact BK263.out) hb); have n1_ := Aside0.mk (blk_below (g := gb264) (o := .cells #[.int .u8 a1_0, .bool a1_1, .int .i64 a1_2, .string a1_3] 25 (0, 0)) (by (with_reducible repeat (first | refine blk_drewN ?_ _ | refine blk_drew ?_ | refine blk_alloc ?_ _)); exact BK264.out) hb); have n2_ := Aside0.mk (blk_below (g := gb265) (o := .cells #[.int .u8 a2_0, .bool a2_1, .int .i64 a2_2, .string a2_3] 25 (0, 0)) (by (with_reducible repeat (first | refine blk_drewN ?_ _ | refine blk_drew ?_ | refine blk_alloc ?_ _)); exact BK265.out) hb); have n3_ := Aside0.mk (below_step (by repeat (first | (with_reducible first | exact HB.out | apply below_alloc | apply pw_below_drewN | apply below_drew1 | refine below_set ?_ GE263.out | refine below_set ?_ GE264.out | refine below_set ?_ GE265.out) | exact HB.out)) hb); clear BK263; clear BK264; clear BK265; clear HB; have BK263 := n0_; have BK264 := n1_; have BK265 := n2_; have HB := n3_; clear n0_ n1_ n2_ n3_; (try clear hb); (try clear hb2); (try clear hk); (try clear hi); (try have hcy0_0 : w64.cell? ⟨gb263, 0, none⟩ = some (.int .u8 a0_0) := (blk_cell BK263.out 0).trans rfl); (try have hcy0_1 : w64.cell? ⟨gb263, 1, none⟩ = some (.bool a0_1) := (blk_cell BK263.out 1).trans rfl); (try have hcy0_2 : w64.cell? ⟨gb263, 2, none⟩ = some (.int .i64 a0_2) := (blk_cell BK263.out 2).trans rfl); (try have hcy0_3 : w64.cell? ⟨gb263, 3, none⟩ = some (.string a0_3) := (blk_cell BK263.out 3).trans rfl); (try have hcy1_0 : w64.cell? ⟨gb264, 0, none⟩ = some (.int .u8 a1_0) := (blk_cell BK264.out 0).trans rfl); (try have hcy1_1 : w64.cell? ⟨gb264, 1, none⟩ = some (.bool a1_1) := (blk_cell BK264.out 1).trans rfl); (try have hcy1_2 : w64.cell? ⟨gb264, 2, none⟩ = some (.int .i64 a1_2) := (blk_cell BK264.out 2).trans rfl); (try have hcy1_3 : w64.cell? ⟨gb264, 3, none⟩ = some (.string a1_3) := (blk_cell BK264.out 3).trans rfl); (try have hcy2_0 : w64.cell? ⟨gb265, 0, none⟩ = some (.int .u8 a2_0) := (blk_cell BK265.out 0).trans rfl); (try have hcy2_1 : w64.cell? ⟨gb265, 1, none⟩ = some (.bool a2_1) := (blk_cell BK265.out 1).trans rfl); (try have hcy2_2 : w64.cell? ⟨gb265, 2, none⟩ = some (.int .i64 a2_2) := (blk_cell BK265.out 2).trans rfl); (try have hcy2_3 : w64.cell? ⟨gb265, 3, none⟩ = some (.string a2_3) := (blk_cell BK265.out 3).trans rfl); have hcz65_0 : w64.cell? ⟨gb263, 0, none⟩ = some (.int .u8 a0_0) := (blk_cell BK263.out 0).trans rfl; have hcz65_1 : w64.cell? ⟨gb263, 1, none⟩ = some (.bool a0_1) := (blk_cell BK263.out 1).trans rfl; have hcz65_2 : w64.cell? ⟨gb263, 2, none⟩ = some (.int .i64 a0_2) := (blk_cell BK263.out 2).trans rfl; have hcz65_3 : w64.cell? ⟨gb263, 3, none⟩ = some (.string a0_3) := (blk_cell BK263.out 3).trans rfl; have hfz65_0 := blk_frozen BK263.out 0; have hfz65_1 := blk_frozen BK263.out 1; have hfz65_2 := blk_frozen BK263.out 2; have hfz65_3 := blk_frozen BK263.out 3; have hcz66_0 : w64.cell? ⟨gb264, 0, none⟩ = some (.int .u8 a1_0) := (blk_cell BK264.out 0).trans rfl; have hcz66_1 : w64.cell? ⟨gb264, 1, none⟩ = some (.bool a1_1) := (blk_cell BK264.out 1).trans rfl; have hcz66_2 : w64.cell? ⟨gb264, 2, none⟩ = some (.int .i64 a1_2) := (blk_cell BK264.out 2).trans rfl; have hcz66_3 : w64.cell? ⟨gb264, 3, none⟩ = some (.string a1_3) := (blk_cell BK264.out 3).trans rfl; have hfz66_0 := blk_frozen BK264.out 0; have hfz66_1 := blk_frozen BK264.out 1; have hfz66_2 := blk_frozen BK264.out 2; have hfz66_3 := blk_frozen BK264.out 3) | (go_at_call 12; (with_reducible refine (consts_Less.calls k a0_0 a0_1 a0_2 a0_3 a1_0 a1_1 a1_2 a1_3 true _ A29.out).mono ?_); rintro e w67 ⟨rfl, hb⟩; have n0_ := Aside0.mk (blk_below (g := gb263) (o := .cells #[.int .u8 a0_0, .bool a0_1, .int .i64 a0_2, .string a0_3] 25 (0, 0)) (by (with_reducible repeat (first | refine blk_drewN ?_ _ | refine blk_drew ?_ | refine blk_alloc ?_ _)); exact BK263.out) hb); have n1_ := Aside0.mk (blk_below (g := gb264) (o := .cells #[.int .u8 a1_0, .bool a1_1, .int .i64 a1_2, .string a1_3] 25 (0, 0)) (by (with_reducible repeat (first | refine blk_drewN ?_ _ | refine blk_drew ?_ | refine blk_alloc ?_ _)); exact BK264.out) hb); have n2_ := Aside0.mk (blk_below (g := gb265) (o := .cells #[.int .u8 a2_0, .bool a2_1, .int .i64 a2_2, .string a2_3] 25 (0, 0)) (by (with_reducible repeat (first | refine blk_drewN ?_ _ | refine blk_drew ?_ | refine blk_alloc ?_ _)); exact BK265.out) hb); have n3_ := Aside0.mk (below_step (by repeat (first | (with_reducible first | exact HB.out | apply below_alloc | apply pw_below_drewN | apply below_drew1 | refine below_set ?_ GE263.out | refine below_set ?_ GE264.out | refine below_set ?_ GE265.out) | exact HB.out)) hb); clear BK263; clear BK264; clear BK265; clear HB; have BK263 := n0_; have BK264 := n1_; have BK265 := n2_; have HB := n3_; clear n0_ n1_ n2_ n3_; (try clear hb); (try clear hb2); (try clear hk); (try clear hi); (try have hcy0_0 : w67.cell? ⟨gb263, 0, none⟩ = some (.int .u8 a0_0) := (blk_cell BK263.out 0).trans rfl); (try have hcy0_1 : w67.cell? ⟨gb263, 1, none⟩ = some (.bool a0_1) := (blk_cell BK263.out 1).trans rfl); (try have hcy0_2 : w67.cell? ⟨gb263, 2, none⟩ = some (.int .i64 a0_2) := (blk_cell BK263.out 2).trans rfl); (try have hcy0_3 : w67.cell? ⟨gb263, 3, none⟩ = some (.string a0_3) := (blk_cell BK263.out 3).trans rfl); (try have hcy1_0 : w67.cell? ⟨gb264, 0, none⟩ = some (.int .u8 a1_0) := (blk_cell BK264.out 0).trans rfl); (try have hcy1_1 : w67.cell? ⟨gb264, 1, none⟩ = some (.bool a1_1) := (blk_cell BK264.out 1).trans rfl); (try have hcy1_2 : w67.cell? ⟨gb264, 2, none⟩ = some (.int .i64 a1_2) := (blk_cell BK264.out 2).trans rfl); (try have hcy1_3 : w67.cell? ⟨gb264, 3, none⟩ = some (.string a1_3) := (blk_cell BK264.out 3).trans rfl); (try have hcy2_0 : w67.cell? ⟨gb265, 0, none⟩ = some (.int .u8 a2_0) := (blk_cell BK265.out 0).trans rfl); (try have hcy2_1 : w67.cell? ⟨gb265, 1, none⟩ = some (.bool a2_1) := (blk_cell BK265.out 1).trans rfl); (try have hcy2_2 : w67.cell? ⟨gb265, 2, none⟩ = some (.int .i64 a2_2) := (blk_cell BK265.out 2).trans rfl); (try have hcy2_3 : w67.cell? ⟨gb265, 3, none⟩ = some (.string a2_3) := (blk_cell BK265.out 3).trans rfl); have hcz68_0 : w67.cell? ⟨gb264, 0, none⟩ = some (.int .u8 a1_0) := (blk_cell BK264.out 0).trans rfl; have hcz68_1 : w67.cell? ⟨gb264, 1, none⟩ = some (.bool a1_1) := (blk_cell BK264.out 1).trans rfl; have hcz68_2 : w67.cell? ⟨gb264, 2, none⟩ = some (.int .i64 a1_2) := (blk_cell BK264.out 2).trans rfl; have hcz68_3 : w67.cell? ⟨gb264, 3, none⟩ = some (.string a1_3) := (blk_cell BK264.out 3).trans rfl; have hfz68_0 := blk_frozen BK264.out 0; have hfz68_1 := blk_frozen BK264.out 1; have hfz68_2 := blk_frozen BK264.out 2; have hfz68_3 := blk_frozen BK264.out 3; have hcz69_0 : w67.cell? ⟨gb265, 0, none⟩ = some (.int .u8 a2_0) := (blk_cell BK265.out 0).trans rfl; have hcz69_1 : w67.cell? ⟨gb265, 1, none⟩ = some (.bool a2_1) := (blk_cell BK265.out 1).trans rfl; have hcz69_2 : w67.cell? ⟨gb265, 2, none⟩ = some (.int .i64 a2_2) := (blk_cell BK265.out 2).trans rfl; have hcz69_3 : w67.cell? ⟨gb265, 3, none⟩ = some (.string a2_3) := (blk_cell BK265.out 3).trans rfl; have hfz69_0 := blk_frozen BK265.out 0; have hfz69_1 := blk_frozen BK265.out 1; have hfz69_2 := blk_frozen BK265.out 2; have hfz69_3 := blk_frozen BK265.out 3) | (go_at_call 12; (with_reducible refine (consts_Less.calls k a1_0 a1_1 a1_2 a1_3 a2_0 a2_1 a2_2 a2_3 false _ A31.out).mono ?_); rintro e w70 ⟨rfl, hb⟩; have n0_ := Aside0.mk (blk_below (g := gb263) (o := .cells #[.int .u8 a0_0, .bool a0_1, .int .i64 a0_2, .string a0_3] 25 (0, 0)) (by (with_reducible repeat (first | refine blk_drewN ?_ _ | refine blk_drew ?_ | refine blk_alloc ?_ _)); exact BK263.out) hb); have n1_ := Aside0.mk (blk_below (g := gb264) (o := .cells #[.int .u8 a1_0, .bool a1_1, .int .i64 a1_2, .string a1_3] 25 (0, 0)) (by (with_reducible repeat (first | refine blk_drewN ?_ _ | refine blk_drew ?_ | refine blk_alloc ?_ _)); exact BK264.out) hb); have n2_ := Aside0.mk (blk_below (g := gb265) (o := .cells #[.int .u8 a2_0, .bool a2_1, .int .i64 a2_2, .string a2_3] 25 (0, 0)) (by (with_reducible repeat (first | refine blk_drewN ?_ _ | refine blk_drew ?_ | refine blk_alloc ?_ _)); exact BK265.out) hb); have n3_ := Aside0.mk (below_step (by repeat (first | (with_reducible first | exact HB.out | apply below_alloc | apply pw_below_drewN | apply below_drew1 | refine below_set ?_ GE263.out | refine below_set ?_ GE264.out | refine below_set ?_ GE265.out) | exact HB.out)) hb); clear BK263; clear BK264; clear BK265; clear HB; have BK263 := n0_; have BK264 := n1_; have BK265 := n2_; have HB := n3_; clear n0_ n1_ n2_ n3_; (try clear hb); (try clear hb2); (try clear hk); (try clear hi)))
              go_meet
              case rel => exact ⟨_, (false), (by first | rfl | (simp; done) | (simp [*]; done)), H', ⟨by first | omega | exact Nat.le_refl _⟩, ⟨by (with_reducible repeat (first | refine blk_drewN ?_ _ | refine blk_drew ?_ | refine blk_alloc ?_ _)); exact BK263.out⟩, ⟨by (with_reducible repeat (first | refine blk_drewN ?_ _ | refine blk_drew ?_ | refine blk_alloc ?_ _)); exact BK264.out⟩, ⟨by (with_reducible repeat (first | refine blk_drewN ?_ _ | refine blk_drew ?_ | refine blk_alloc ?_ _)); exact BK265.out⟩, ⟨by repeat (first | (with_reducible first | exact HB.out | apply below_alloc | apply pw_below_drewN | apply below_drew1 | refine below_set ?_ GE263.out | refine below_set ?_ GE264.out | refine below_set ?_ GE265.out) | exact HB.out)⟩⟩
          · replace c30 := Bool.eq_false_iff.mpr c30
            subst c30
            exact absurd (A14.out.symm.trans A29.out) (by simp)
      · replace c15 := Bool.eq_false_iff.mpr c15
        subst c15
        have H1 : ((consts_Less.f k a0_0 a0_1 a0_2 a0_3 a1_0 a1_1 a1_2 a1_3).bind fun t272 => (if t272 = true then ((consts_Less.f k a1_0 a1_1 a1_2 a1_3 a2_0 a2_1 a2_2 a2_3).bind fun t273 => (if t273 = true then ((consts_Less.f k a0_0 a0_1 a0_2 a0_3 a2_0 a2_1 a2_2 a2_3).bind fun t274 => (monikerlaw8_ConstOrder.j0 k (!t274) a0_0 a0_1 a0_2 a0_3 a1_0 a1_1 a1_2 a1_3)) else (monikerlaw8_ConstOrder.j0 k false a0_0 a0_1 a0_2 a0_3 a1_0 a1_1 a1_2 a1_3))) else (monikerlaw8_ConstOrder.j0 k false a0_0 a0_1 a0_2 a0_3 a1_0 a1_1 a1_2 a1_3))) = some r := by rw [if_neg (show ¬ (false = true) by decide)] at H; exact H
        clear H
        have H := H1
        clear H1
        replace H := Option.bind_eq_some_iff.mp H
        obtain ⟨t272, A850, H⟩ := H
        replace H : (if t272 = true then ((consts_Less.f k a1_0 a1_1 a1_2 a1_3 a2_0 a2_1 a2_2 a2_3).bind fun t273 => (if t273 = true then ((consts_Less.f k a0_0 a0_1 a0_2 a0_3 a2_0 a2_1 a2_2 a2_3).bind fun t274 => (monikerlaw8_ConstOrder.j0 k (!t274) a0_0 a0_1 a0_2 a0_3 a1_0 a1_1 a1_2 a1_3)) else (monikerlaw8_ConstOrder.j0 k false a0_0 a0_1 a0_2 a0_3 a1_0 a1_1 a1_2 a1_3))) else (monikerlaw8_ConstOrder.j0 k false a0_0 a0_1 a0_2 a0_3 a1_0 a1_1 a1_2 a1_3)) = some r := H
        have A85 := Aside0.mk A850
        clear A850
        by_cases c86 : t272 = true
        · subst c86
          exact absurd (A14.out.symm.trans A85.out) (by simp)
        · replace c86 := Bool.eq_false_iff.mpr c86
          subst c86
          have H1 : (monikerlaw8_ConstOrder.j0 k false a0_0 a0_1 a0_2 a0_3 a1_0 a1_1 a1_2 a1_3) = some r := by rw [if_neg (show ¬ (false = true) by decide)] at H; exact H
          clear H
          have H := H1
          clear H1
          have H' := Aside0.mk H
          clear H
          have hnb121 := NB263_264.out
          have hnc121 := NB264_263.out
          have hnb122 := NB263_265.out
          have hnc122 := NB265_263.out
          have hcz123_0 : w7.cell? ⟨gb263, 0, none⟩ = some (.int .u8 a0_0) := (blk_cell BK263.out 0).trans rfl
          have hcz123_1 : w7.cell? ⟨gb263, 1, none⟩ = some (.bool a0_1) := (blk_cell BK263.out 1).trans rfl
          have hcz123_2 : w7.cell? ⟨gb263, 2, none⟩ = some (.int .i64 a0_2) := (blk_cell BK263.out 2).trans rfl
          have hcz123_3 : w7.cell? ⟨gb263, 3, none⟩ = some (.string a0_3) := (blk_cell BK263.out 3).trans rfl
          have hfz123_0 := blk_frozen BK263.out 0
          have hfz123_1 := blk_frozen BK263.out 1
          have hfz123_2 := blk_frozen BK263.out 2
          have hfz123_3 := blk_frozen BK263.out 3
          go_wp2_with (first | ((with_reducible refine gate_callee (f := 12) rfl ?_); refine goesL_ (some 11) rfl rfl Tryd.func12 (by kernel_rfl) rfl #[.agg #[.int .u8 a0_0, .bool a0_1, .int .i64 a0_2, .string a0_3], .agg #[.int .u8 a0_0, .bool a0_1, .int .i64 a0_2, .string a0_3]] rfl (by (try simp only [List.map_toArray, List.map_cons, List.map_nil]); first | done | rfl | (simp only [List.length_drop, List.length_take]; rfl)) ?_; (with_reducible refine (consts_Less.calls k a0_0 a0_1 a0_2 a0_3 a0_0 a0_1 a0_2 a0_3 false _ A8.out).mono ?_); rintro e w124 ⟨rfl, hb⟩; refine ⟨_, rfl, ?_⟩; have n0_ := Aside0.mk (blk_below (g := gb263) (o := .cells #[.int .u8 a0_0, .bool a0_1, .int .i64 a0_2, .string a0_3] 25 (0, 0)) (by (with_reducible repeat (first | refine blk_drewN ?_ _ | refine blk_drew ?_ | refine blk_alloc ?_ _)); exact BK263.out) hb); have n1_ := Aside0.mk (blk_below (g := gb264) (o := .cells #[.int .u8 a1_0, .bool a1_1, .int .i64 a1_2, .string a1_3] 25 (0, 0)) (by (with_reducible repeat (first | refine blk_drewN ?_ _ | refine blk_drew ?_ | refine blk_alloc ?_ _)); exact BK264.out) hb); have n2_ := Aside0.mk (blk_below (g := gb265) (o := .cells #[.int .u8 a2_0, .bool a2_1, .int .i64 a2_2, .string a2_3] 25 (0, 0)) (by (with_reducible repeat (first | refine blk_drewN ?_ _ | refine blk_drew ?_ | refine blk_alloc ?_ _)); exact BK265.out) hb); have n3_ := Aside0.mk (below_step (by repeat (first | (with_reducible first | exact HB.out | apply below_alloc | apply pw_below_drewN | apply below_drew1 | refine below_set ?_ GE263.out | refine below_set ?_ GE264.out | refine below_set ?_ GE265.out) | exact HB.out)) hb); clear BK263; clear BK264; clear BK265; clear HB; have BK263 := n0_; have BK264 := n1_; have BK265 := n2_; have HB := n3_; clear n0_ n1_ n2_ n3_; (try clear hb); (try clear hb2); (try clear hk); (try clear hi); (try have hcy0_0 : w124.cell? ⟨gb263, 0, none⟩ = some (.int .u8 a0_0) := (blk_cell BK263.out 0).trans rfl); (try have hcy0_1 : w124.cell? ⟨gb263, 1, none⟩ = some (.bool a0_1) := (blk_cell BK263.out 1).trans rfl); (try have hcy0_2 : w124.cell? ⟨gb263, 2, none⟩ = some (.int .i64 a0_2) := (blk_cell BK263.out 2).trans rfl); (try have hcy0_3 : w124.cell? ⟨gb263, 3, none⟩ = some (.string a0_3) := (blk_cell BK263.out 3).trans rfl); (try have hcy1_0 : w124.cell? ⟨gb264, 0, none⟩ = some (.int .u8 a1_0) := (blk_cell BK264.out 0).trans rfl); (try have hcy1_1 : w124.cell? ⟨gb264, 1, none⟩ = some (.bool a1_1) := (blk_cell BK264.out 1).trans rfl); (try have hcy1_2 : w124.cell? ⟨gb264, 2, none⟩ = some (.int .i64 a1_2) := (blk_cell BK264.out 2).trans rfl); (try have hcy1_3 : w124.cell? ⟨gb264, 3, none⟩ = some (.string a1_3) := (blk_cell BK264.out 3).trans rfl); (try have hcy2_0 : w124.cell? ⟨gb265, 0, none⟩ = some (.int .u8 a2_0) := (blk_cell BK265.out 0).trans rfl); (try have hcy2_1 : w124.cell? ⟨gb265, 1, none⟩ = some (.bool a2_1) := (blk_cell BK265.out 1).trans rfl); (try have hcy2_2 : w124.cell? ⟨gb265, 2, none⟩ = some (.int .i64 a2_2) := (blk_cell BK265.out 2).trans rfl); (try have hcy2_3 : w124.cell? ⟨gb265, 3, none⟩ = some (.string a2_3) := (blk_cell BK265.out 3).trans rfl); have hcz125_0 : w124.cell? ⟨gb263, 0, none⟩ = some (.int .u8 a0_0) := (blk_cell BK263.out 0).trans rfl; have hcz125_1 : w124.cell? ⟨gb263, 1, none⟩ = some (.bool a0_1) := (blk_cell BK263.out 1).trans rfl; have hcz125_2 : w124.cell? ⟨gb263, 2, none⟩ = some (.int .i64 a0_2) := (blk_cell BK263.out 2).trans rfl; have hcz125_3 : w124.cell? ⟨gb263, 3, none⟩ = some (.string a0_3) := (blk_cell BK263.out 3).trans rfl; have hfz125_0 := blk_frozen BK263.out 0; have hfz125_1 := blk_frozen BK263.out 1; have hfz125_2 := blk_frozen BK263.out 2; have hfz125_3 := blk_frozen BK263.out 3; have hnb126 := NB264_265.out; have hnc126 := NB265_264.out; have hcz127_0 : w124.cell? ⟨gb264, 0, none⟩ = some (.int .u8 a1_0) := (blk_cell BK264.out 0).trans rfl; have hcz127_1 : w124.cell? ⟨gb264, 1, none⟩ = some (.bool a1_1) := (blk_cell BK264.out 1).trans rfl; have hcz127_2 : w124.cell? ⟨gb264, 2, none⟩ = some (.int .i64 a1_2) := (blk_cell BK264.out 2).trans rfl; have hcz127_3 : w124.cell? ⟨gb264, 3, none⟩ = some (.string a1_3) := (blk_cell BK264.out 3).trans rfl; have hfz127_0 := blk_frozen BK264.out 0; have hfz127_1 := blk_frozen BK264.out 1; have hfz127_2 := blk_frozen BK264.out 2; have hfz127_3 := blk_frozen BK264.out 3) | (go_at_call 12; (with_reducible refine (consts_Less.calls k a0_0 a0_1 a0_2 a0_3 a1_0 a1_1 a1_2 a1_3 false _ A14.out).mono ?_); rintro e w128 ⟨rfl, hb⟩; have n0_ := Aside0.mk (blk_below (g := gb263) (o := .cells #[.int .u8 a0_0, .bool a0_1, .int .i64 a0_2, .string a0_3] 25 (0, 0)) (by (with_reducible repeat (first | refine blk_drewN ?_ _ | refine blk_drew ?_ | refine blk_alloc ?_ _)); exact BK263.out) hb); have n1_ := Aside0.mk (blk_below (g := gb264) (o := .cells #[.int .u8 a1_0, .bool a1_1, .int .i64 a1_2, .string a1_3] 25 (0, 0)) (by (with_reducible repeat (first | refine blk_drewN ?_ _ | refine blk_drew ?_ | refine blk_alloc ?_ _)); exact BK264.out) hb); have n2_ := Aside0.mk (blk_below (g := gb265) (o := .cells #[.int .u8 a2_0, .bool a2_1, .int .i64 a2_2, .string a2_3] 25 (0, 0)) (by (with_reducible repeat (first | refine blk_drewN ?_ _ | refine blk_drew ?_ | refine blk_alloc ?_ _)); exact BK265.out) hb); have n3_ := Aside0.mk (below_step (by repeat (first | (with_reducible first | exact HB.out | apply below_alloc | apply pw_below_drewN | apply below_drew1 | refine below_set ?_ GE263.out | refine below_set ?_ GE264.out | refine below_set ?_ GE265.out) | exact HB.out)) hb); clear BK263; clear BK264; clear BK265; clear HB; have BK263 := n0_; have BK264 := n1_; have BK265 := n2_; have HB := n3_; clear n0_ n1_ n2_ n3_; (try clear hb); (try clear hb2); (try clear hk); (try clear hi); (try have hcy0_0 : w128.cell? ⟨gb263, 0, none⟩ = some (.int .u8 a0_0) := (blk_cell BK263.out 0).trans rfl); (try have hcy0_1 : w128.cell? ⟨gb263, 1, none⟩ = some (.bool a0_1) := (blk_cell BK263.out 1).trans rfl); (try have hcy0_2 : w128.cell? ⟨gb263, 2, none⟩ = some (.int .i64 a0_2) := (blk_cell BK263.out 2).trans rfl); (try have hcy0_3 : w128.cell? ⟨gb263, 3, none⟩ = some (.string a0_3) := (blk_cell BK263.out 3).trans rfl); (try have hcy1_0 : w128.cell? ⟨gb264, 0, none⟩ = some (.int .u8 a1_0) := (blk_cell BK264.out 0).trans rfl); (try have hcy1_1 : w128.cell? ⟨gb264, 1, none⟩ = some (.bool a1_1) := (blk_cell BK264.out 1).trans rfl); (try have hcy1_2 : w128.cell? ⟨gb264, 2, none⟩ = some (.int .i64 a1_2) := (blk_cell BK264.out 2).trans rfl); (try have hcy1_3 : w128.cell? ⟨gb264, 3, none⟩ = some (.string a1_3) := (blk_cell BK264.out 3).trans rfl); (try have hcy2_0 : w128.cell? ⟨gb265, 0, none⟩ = some (.int .u8 a2_0) := (blk_cell BK265.out 0).trans rfl); (try have hcy2_1 : w128.cell? ⟨gb265, 1, none⟩ = some (.bool a2_1) := (blk_cell BK265.out 1).trans rfl); (try have hcy2_2 : w128.cell? ⟨gb265, 2, none⟩ = some (.int .i64 a2_2) := (blk_cell BK265.out 2).trans rfl); (try have hcy2_3 : w128.cell? ⟨gb265, 3, none⟩ = some (.string a2_3) := (blk_cell BK265.out 3).trans rfl); have hcz129_0 : w128.cell? ⟨gb263, 0, none⟩ = some (.int .u8 a0_0) := (blk_cell BK263.out 0).trans rfl; have hcz129_1 : w128.cell? ⟨gb263, 1, none⟩ = some (.bool a0_1) := (blk_cell BK263.out 1).trans rfl; have hcz129_2 : w128.cell? ⟨gb263, 2, none⟩ = some (.int .i64 a0_2) := (blk_cell BK263.out 2).trans rfl; have hcz129_3 : w128.cell? ⟨gb263, 3, none⟩ = some (.string a0_3) := (blk_cell BK263.out 3).trans rfl; have hfz129_0 := blk_frozen BK263.out 0; have hfz129_1 := blk_frozen BK263.out 1; have hfz129_2 := blk_frozen BK263.out 2; have hfz129_3 := blk_frozen BK263.out 3; have hcz130_0 : w128.cell? ⟨gb264, 0, none⟩ = some (.int .u8 a1_0) := (blk_cell BK264.out 0).trans rfl; have hcz130_1 : w128.cell? ⟨gb264, 1, none⟩ = some (.bool a1_1) := (blk_cell BK264.out 1).trans rfl; have hcz130_2 : w128.cell? ⟨gb264, 2, none⟩ = some (.int .i64 a1_2) := (blk_cell BK264.out 2).trans rfl; have hcz130_3 : w128.cell? ⟨gb264, 3, none⟩ = some (.string a1_3) := (blk_cell BK264.out 3).trans rfl; have hfz130_0 := blk_frozen BK264.out 0; have hfz130_1 := blk_frozen BK264.out 1; have hfz130_2 := blk_frozen BK264.out 2; have hfz130_3 := blk_frozen BK264.out 3) | (go_at_call 12; (with_reducible refine (consts_Less.calls k a0_0 a0_1 a0_2 a0_3 a1_0 a1_1 a1_2 a1_3 false _ A85.out).mono ?_); rintro e w131 ⟨rfl, hb⟩; have n0_ := Aside0.mk (blk_below (g := gb263) (o := .cells #[.int .u8 a0_0, .bool a0_1, .int .i64 a0_2, .string a0_3] 25 (0, 0)) (by (with_reducible repeat (first | refine blk_drewN ?_ _ | refine blk_drew ?_ | refine blk_alloc ?_ _)); exact BK263.out) hb); have n1_ := Aside0.mk (blk_below (g := gb264) (o := .cells #[.int .u8 a1_0, .bool a1_1, .int .i64 a1_2, .string a1_3] 25 (0, 0)) (by (with_reducible repeat (first | refine blk_drewN ?_ _ | refine blk_drew ?_ | refine blk_alloc ?_ _)); exact BK264.out) hb); have n2_ := Aside0.mk (blk_below (g := gb265) (o := .cells #[.int .u8 a2_0, .bool a2_1, .int .i64 a2_2, .string a2_3] 25 (0, 0)) (by (with_reducible repeat (first | refine blk_drewN ?_ _ | refine blk_drew ?_ | refine blk_alloc ?_ _)); exact BK265.out) hb); have n3_ := Aside0.mk (below_step (by repeat (first | (with_reducible first | exact HB.out | apply below_alloc | apply pw_below_drewN | apply below_drew1 | refine below_set ?_ GE263.out | refine below_set ?_ GE264.out | refine below_set ?_ GE265.out) | exact HB.out)) hb); clear BK263; clear BK264; clear BK265; clear HB; have BK263 := n0_; have BK264 := n1_; have BK265 := n2_; have HB := n3_; clear n0_ n1_ n2_ n3_; (try clear hb); (try clear hb2); (try clear hk); (try clear hi)))
          go_meet
          case rel => exact ⟨_, (false), (by first | rfl | (simp; done) | (simp [*]; done)), H', ⟨by first | omega | exact Nat.le_refl _⟩, ⟨by (with_reducible repeat (first | refine blk_drewN ?_ _ | refine blk_drew ?_ | refine blk_alloc ?_ _)); exact BK263.out⟩, ⟨by (with_reducible repeat (first | refine blk_drewN ?_ _ | refine blk_drew ?_ | refine blk_alloc ?_ _)); exact BK264.out⟩, ⟨by (with_reducible repeat (first | refine blk_drewN ?_ _ | refine blk_drew ?_ | refine blk_alloc ?_ _)); exact BK265.out⟩, ⟨by repeat (first | (with_reducible first | exact HB.out | apply below_alloc | apply pw_below_drewN | apply below_drew1 | refine below_set ?_ GE263.out | refine below_set ?_ GE264.out | refine below_set ?_ GE265.out) | exact HB.out)⟩⟩
  case rest =>
    clear HC4
    try clear c1
    try clear c2
    try clear p2
    try clear c3
    try clear c5
    try clear c7
    try clear c8
    try clear c9
    try clear c10
    try clear c11
    try clear c12
    try clear c15
    try clear c17
    try clear c18
    try clear c19
    try clear c23
    try clear c30
    try clear c32
    try clear c34
    try clear c35
    try clear c39
    try clear c54
    try clear c55
    try clear c59
    try clear c71
    try clear c72
    try clear c76
    try clear c86
    try clear c88
    try clear c90
    try clear c91
    try clear c95
    try clear c107
    try clear c108
    try clear c112
    try clear c121
    try clear c122
    try clear c126
    try clear hcz101_0
    try clear hcz101_1
    try clear hcz101_2
    try clear hcz101_3
    try clear hcz102_0
    try clear hcz102_1
    try clear hcz102_2
    try clear hcz102_3
    try clear hcz104_0
    try clear hcz104_1
    try clear hcz104_2
    try clear hcz104_3
    try clear hcz105_0
    try clear hcz105_1
    try clear hcz105_2
    try clear hcz105_3
    try clear hcz109_0
    try clear hcz109_1
    try clear hcz109_2
    try clear hcz109_3
    try clear hcz111_0
    try clear hcz111_1
    try clear hcz111_2
    try clear hcz111_3
    try clear hcz113_0
    try clear hcz113_1
    try clear hcz113_2
    try clear hcz113_3
    try clear hcz115_0
    try clear hcz115_1
    try clear hcz115_2
    try clear hcz115_3
    try clear hcz116_0
    try clear hcz116_1
    try clear hcz116_2
    try clear hcz116_3
    try clear hcz118_0
    try clear hcz118_1
    try clear hcz118_2
    try clear hcz118_3
    try clear hcz119_0
    try clear hcz119_1
    try clear hcz119_2
    try clear hcz119_3
    try clear hcz123_0
    try clear hcz123_1
    try clear hcz123_2
    try clear hcz123_3
    try clear hcz125_0
    try clear hcz125_1
    try clear hcz125_2
    try clear hcz125_3
    try clear hcz127_0
    try clear hcz127_1
    try clear hcz127_2
    try clear hcz127_3
    try clear hcz129_0
    try clear hcz129_1
    try clear hcz129_2
    try clear hcz129_3
    try clear hcz12_0
    try clear hcz12_1
    try clear hcz12_2
    try clear hcz12_3
    try clear hcz130_0
    try clear hcz130_1
    try clear hcz130_2
    try clear hcz130_3
    try clear hcz20_0
    try clear hcz20_1
    try clear hcz20_2
    try clear hcz20_3
    try clear hcz22_0
    try clear hcz22_1
    try clear hcz22_2
    try clear hcz22_3
    try clear hcz24_0
    try clear hcz24_1
    try clear hcz24_2
    try clear hcz24_3
    try clear hcz26_0
    try clear hcz26_1
    try clear hcz26_2
    try clear hcz26_3
    try clear hcz27_0
    try clear hcz27_1
    try clear hcz27_2
    try clear hcz27_3
    try clear hcz36_0
    try clear hcz36_1
    try clear hcz36_2
    try clear hcz36_3
    try clear hcz38_0
    try clear hcz38_1
    try clear hcz38_2
    try clear hcz38_3
    try clear hcz40_0
    try clear hcz40_1
    try clear hcz40_2
    try clear hcz40_3
    try clear hcz42_0
    try clear hcz42_1
    try clear hcz42_2
    try clear hcz42_3
    try clear hcz43_0
    try clear hcz43_1
    try clear hcz43_2
    try clear hcz43_3
    try clear hcz45_0
    try clear hcz45_1
    try clear hcz45_2
    try clear hcz45_3
    try clear hcz46_0
    try clear hcz46_1
    try clear hcz46_2
    try clear hcz46_3
    try clear hcz48_0
    try clear hcz48_1
    try clear hcz48_2
    try clear hcz48_3
    try clear hcz49_0
    try clear hcz49_1
    try clear hcz49_2
    try clear hcz49_3
    try clear hcz51_0
    try clear hcz51_1
    try clear hcz51_2
    try clear hcz51_3
    try clear hcz52_0
    try clear hcz52_1
    try clear hcz52_2
    try clear hcz52_3
    try clear hcz56_0
    try clear hcz56_1
    try clear hcz56_2
    try clear hcz56_3
    try clear hcz58_0
    try clear hcz58_1
    try clear hcz58_2
    try clear hcz58_3
    try clear hcz60_0
    try clear hcz60_1
    try clear hcz60_2
    try clear hcz60_3
    try clear hcz62_0
    try clear hcz62_1
    try clear hcz62_2
    try clear hcz62_3
    try clear hcz63_0
    try clear hcz63_1
    try clear hcz63_2
    try clear hcz63_3
    try clear hcz65_0
    try clear hcz65_1
    try clear hcz65_2
    try clear hcz65_3
    try clear hcz66_0
    try clear hcz66_1
    try clear hcz66_2
    try clear hcz66_3
    try clear hcz68_0
    try clear hcz68_1
    try clear hcz68_2
    try clear hcz68_3
    try clear hcz69_0
    try clear hcz69_1
    try clear hcz69_2
    try clear hcz69_3
    try clear hcz73_0
    try clear hcz73_1
    try clear hcz73_2
    try clear hcz73_3
    try clear hcz75_0
    try clear hcz75_1
    try clear hcz75_2
    try clear hcz75_3
    try clear hcz77_0
    try clear hcz77_1
    try clear hcz77_2
    try clear hcz77_3
    try clear hcz79_0
    try clear hcz79_1
    try clear hcz79_2
    try clear hcz79_3
    try clear hcz80_0
    try clear hcz80_1
    try clear hcz80_2
    try clear hcz80_3
    try clear hcz82_0
    try clear hcz82_1
    try clear hcz82_2
    try clear hcz82_3
    try clear hcz83_0
    try clear hcz83_1
    try clear hcz83_2
    try clear hcz83_3
    try clear hcz92_0
    try clear hcz92_1
    try clear hcz92_2
    try clear hcz92_3
    try clear hcz94_0
    try clear hcz94_1
    try clear hcz94_2
    try clear hcz94_3
    try clear hcz96_0
    try clear hcz96_1
    try clear hcz96_2
    try clear hcz96_3
    try clear hcz98_0
    try clear hcz98_1
    try clear hcz98_2
    try clear hcz98_3
    try clear hcz99_0
    try clear hcz99_1
    try clear hcz99_2
    try clear hcz99_3
    try clear hfz101_0
    try clear hfz101_1
    try clear hfz101_2
    try clear hfz101_3
    try clear hfz102_0
    try clear hfz102_1
    try clear hfz102_2
    try clear hfz102_3
    try clear hfz104_0
    try clear hfz104_1
    try clear hfz104_2
    try clear hfz104_3
    try clear hfz105_0
    try clear hfz105_1
    try clear hfz105_2
    try clear hfz105_3
    try clear hfz109_0
    try clear hfz109_1
    try clear hfz109_2
    try clear hfz109_3
    try clear hfz111_0
    try clear hfz111_1
    try clear hfz111_2
    try clear hfz111_3
    try clear hfz113_0
    try clear hfz113_1
    try clear hfz113_2
    try clear hfz113_3
    try clear hfz115_0
    try clear hfz115_1
    try clear hfz115_2
    try clear hfz115_3
    try clear hfz116_0
    try clear hfz116_1
    try clear hfz116_2
    try clear hfz116_3
    try clear hfz118_0
    try clear hfz118_1
    try clear hfz118_2
    try clear hfz118_3
    try clear hfz119_0
    try clear hfz119_1
    try clear hfz119_2
    try clear hfz119_3
    try clear hfz123_0
    try clear hfz123_1
    try clear hfz123_2
    try clear hfz123_3
    try clear hfz125_0
    try clear hfz125_1
    try clear hfz125_2
    try clear hfz125_3
    try clear hfz127_0
    try clear hfz127_1
    try clear hfz127_2
    try clear hfz127_3
    try clear hfz129_0
    try clear hfz129_1
    try clear hfz129_2
    try clear hfz129_3
    try clear hfz12_0
    try clear hfz12_1
    try clear hfz12_2
    try clear hfz12_3
    try clear hfz130_0
    try clear hfz130_1
    try clear hfz130_2
    try clear hfz130_3
    try clear hfz20_0
    try clear hfz20_1
    try clear hfz20_2
    try clear hfz20_3
    try clear hfz22_0
    try clear hfz22_1
    try clear hfz22_2
    try clear hfz22_3
    try clear hfz24_0
    try clear hfz24_1
    try clear hfz24_2
    try clear hfz24_3
    try clear hfz26_0
    try clear hfz26_1
    try clear hfz26_2
    try clear hfz26_3
    try clear hfz27_0
    try clear hfz27_1
    try clear hfz27_2
    try clear hfz27_3
    try clear hfz36_0
    try clear hfz36_1
    try clear hfz36_2
    try clear hfz36_3
    try clear hfz38_0
    try clear hfz38_1
    try clear hfz38_2
    try clear hfz38_3
    try clear hfz40_0
    try clear hfz40_1
    try clear hfz40_2
    try clear hfz40_3
    try clear hfz42_0
    try clear hfz42_1
    try clear hfz42_2
    try clear hfz42_3
    try clear hfz43_0
    try clear hfz43_1
    try clear hfz43_2
    try clear hfz43_3
    try clear hfz45_0
    try clear hfz45_1
    try clear hfz45_2
    try clear hfz45_3
    try clear hfz46_0
    try clear hfz46_1
    try clear hfz46_2
    try clear hfz46_3
    try clear hfz48_0
    try clear hfz48_1
    try clear hfz48_2
    try clear hfz48_3
    try clear hfz49_0
    try clear hfz49_1
    try clear hfz49_2
    try clear hfz49_3
    try clear hfz51_0
    try clear hfz51_1
    try clear hfz51_2
    try clear hfz51_3
    try clear hfz52_0
    try clear hfz52_1
    try clear hfz52_2
    try clear hfz52_3
    try clear hfz56_0
    try clear hfz56_1
    try clear hfz56_2
    try clear hfz56_3
    try clear hfz58_0
    try clear hfz58_1
    try clear hfz58_2
    try clear hfz58_3
    try clear hfz60_0
    try clear hfz60_1
    try clear hfz60_2
    try clear hfz60_3
    try clear hfz62_0
    try clear hfz62_1
    try clear hfz62_2
    try clear hfz62_3
    try clear hfz63_0
    try clear hfz63_1
    try clear hfz63_2
    try clear hfz63_3
    try clear hfz65_0
    try clear hfz65_1
    try clear hfz65_2
    try clear hfz65_3
    try clear hfz66_0
    try clear hfz66_1
    try clear hfz66_2
    try clear hfz66_3
    try clear hfz68_0
    try clear hfz68_1
    try clear hfz68_2
    try clear hfz68_3
    try clear hfz69_0
    try clear hfz69_1
    try clear hfz69_2
    try clear hfz69_3
    try clear hfz73_0
    try clear hfz73_1
    try clear hfz73_2
    try clear hfz73_3
    try clear hfz75_0
    try clear hfz75_1
    try clear hfz75_2
    try clear hfz75_3
    try clear hfz77_0
    try clear hfz77_1
    try clear hfz77_2
    try clear hfz77_3
    try clear hfz79_0
    try clear hfz79_1
    try clear hfz79_2
    try clear hfz79_3
    try clear hfz80_0
    try clear hfz80_1
    try clear hfz80_2
    try clear hfz80_3
    try clear hfz82_0
    try clear hfz82_1
    try clear hfz82_2
    try clear hfz82_3
    try clear hfz83_0
    try clear hfz83_1
    try clear hfz83_2
    try clear hfz83_3
    try clear hfz92_0
    try clear hfz92_1
    try clear hfz92_2
    try clear hfz92_3
    try clear hfz94_0
    try clear hfz94_1
    try clear hfz94_2
    try clear hfz94_3
    try clear hfz96_0
    try clear hfz96_1
    try clear hfz96_2
    try clear hfz96_3
    try clear hfz98_0
    try clear hfz98_1
    try clear hfz98_2
    try clear hfz98_3
    try clear hfz99_0
    try clear hfz99_1
    try clear hfz99_2
    try clear hfz99_3
    obtain ⟨kq, x37_3, rfl, HA, HJ3, BK263, BK264, BK265, HB⟩ := hcut
    cases kq with
    | zero => exact absurd HA.out (by simp [monikerlaw8_ConstOrder.j0])
    | succ kj3 =>
      have H := HA.out
      clear HA
      simp only [monikerlaw8_ConstOrder.j0] at H
      by_cases c132 : x37_3 = true
      · subst c132
        have H1 : (some false) = some r := by rw [if_pos rfl] at H; exact H
        clear H
        have H := H1
        clear H1
        obtain rfl := Option.some.inj H
        go_wp2
        go_ret
        exact ⟨by first | rfl | (simp [errW_none, errW_some] <;> rfl) | (simp [*, errW_none, errW_some] <;> rfl), by repeat (first | (with_reducible first | exact HB.out | apply below_alloc | apply pw_below_drewN | apply below_drew1 | refine below_set ?_ GE263.out | refine below_set ?_ GE264.out | refine below_set ?_ GE265.out) | exact HB.out)⟩
      · replace c132 := Bool.eq_false_iff.mpr c132
        subst c132
        have H1 : ((monikerref8_Right.f a0_0 a0_1 a0_2 a0_3).bind fun t275 => (if t275 = true then ((monikerref8_Right.f a1_0 a1_1 a1_2 a1_3).bind fun t276 => (if t276 = true then (monikerlaw8_ConstOrder.j1 kj3 (a0_0 != a1_0) a0_0 a0_1 a0_2 a0_3 a1_0 a1_1 a1_2 a1_3) else (monikerlaw8_ConstOrder.j1 kj3 true a0_0 a0_1 a0_2 a0_3 a1_0 a1_1 a1_2 a1_3))) else (monikerlaw8_ConstOrder.j1 kj3 true a0_0 a0_1 a0_2 a0_3 a1_0 a1_1 a1_2 a1_3))) = some r := by rw [if_neg (show ¬ (false = true) by decide)] at H; exact H
        clear H
        have H := H1
        clear H1
        have HC133 := Aside0.mk H
        clear H
        go_upto_region 3 with (fail)
        go_cut [52] (fun v52 wc => ∃ (kq : Nat) (x52_132 : Bool), v52 = .bool x52_132 ∧ Aside0 (monikerlaw8_ConstOrder.j1 kq x52_132 a0_0 a0_1 a0_2 a0_3 a1_0 a1_1 a1_2 a1_3 = some r) ∧ Aside0 (kq ≤ kj3) ∧ Aside0 (wc.heap[gb263]? = some (.cells #[.int .u8 a0_0, .bool a0_1, .int .i64 a0_2, .string a0_3] 25 (0, 0))) ∧ Aside0 (wc.heap[gb264]? = some (.cells #[.int .u8 a1_0, .bool a1_1, .int .i64 a1_2, .string a1_3] 25 (0, 0))) ∧ Aside0 (wc.heap[gb265]? = some (.cells #[.int .u8 a2_0, .bool a2_1, .int .i64 a2_2, .string a2_3] 25 (0, 0))) ∧ Aside0 (Below w.heap.size w wc))
        case first =>
          have H := HC133.out
          clear HC133
          replace H := Option.bind_eq_some_iff.mp H
          obtain ⟨t275, A1340, H⟩ := H
          replace H : (if t275 = true then ((monikerref8_Right.f a1_0 a1_1 a1_2 a1_3).bind fun t276 => (if t276 = true then (monikerlaw8_ConstOrder.j1 kj3 (a0_0 != a1_0) a0_0 a0_1 a0_2 a0_3 a1_0 a1_1 a1_2 a1_3) else (monikerlaw8_ConstOrder.j1 kj3 true a0_0 a0_1 a0_2 a0_3 a1_0 a1_1 a1_2 a1_3))) else (monikerlaw8_ConstOrder.j1 kj3 true a0_0 a0_1 a0_2 a0_3 a1_0 a1_1 a1_2 a1_3)) = some r := H
          have A134 := Aside0.mk A1340
          clear A1340
          by_cases c135 : t275 = true
          · subst c135
            have H1 : ((monikerref8_Right.f a1_0 a1_1 a1_2 a1_3).bind fun t276 => (if t276 = true then (monikerlaw8_ConstOrder.j1 kj3 (a0_0 != a1_0) a0_0 a0_1 a0_2 a0_3 a1_0 a1_1 a1_2 a1_3) else (monikerlaw8_ConstOrder.j1 kj3 true a0_0 a0_1 a0_2 a0_3 a1_0 a1_1 a1_2 a1_3))) = some r := by rw [if_pos rfl] at H; exact H
            clear H
            have H := H1
            clear H1
            replace H := Option.bind_eq_some_iff.mp H
            obtain ⟨t276, A1360, H⟩ := H
            replace H : (if t276 = true then (monikerlaw8_ConstOrder.j1 kj3 (a0_0 != a1_0) a0_0 a0_1 a0_2 a0_3 a1_0 a1_1 a1_2 a1_3) else (monikerlaw8_ConstOrder.j1 kj3 true a0_0 a0_1 a0_2 a0_3 a1_0 a1_1 a1_2 a1_3)) = some r := H
            have A136 := Aside0.mk A1360
            clear A1360
            by_cases c137 : t276 = true
            · subst c137
              have H1 : (monikerlaw8_ConstOrder.j1 kj3 (a0_0 != a1_0) a0_0 a0_1 a0_2 a0_3 a1_0 a1_1 a1_2 a1_3) = some r := by rw [if_pos rfl] at H; exact H
              clear H
              have H := H1
              clear H1
              have H' := Aside0.mk H
              clear H
              have hnb138 := NB263_264.out
              have hnc138 := NB264_263.out
              have hnb139 := NB263_265.out
              have hnc139 := NB265_263.out
              have hcz140_0 : wc.cell? ⟨gb263, 0, none⟩ = some (.int .u8 a0_0) := (blk_cell BK263.out 0).trans rfl
              have hcz140_1 : wc.cell? ⟨gb263, 1, none⟩ = some (.bool a0_1) := (blk_cell BK263.out 1).trans rfl
              have hcz140_2 : wc.cell? ⟨gb263, 2, none⟩ = some (.int .i64 a0_2) := (blk_cell BK263.out 2).trans rfl
              have hcz140_3 : wc.cell? ⟨gb263, 3, none⟩ = some (.string a0_3) := (blk_cell BK263.out 3).trans rfl
              have hfz140_0 := blk_frozen BK263.out 0
              have hfz140_1 := blk_frozen BK263.out 1
              have hfz140_2 := blk_frozen BK263.out 2
              have hfz140_3 := blk_frozen BK263.out 3
              go_wp2_with (first | ((with_reducible refine gate_callee (f := 13) rfl ?_); refine goesL_ (some 39) rfl rfl Tryd.func13 (by kernel_rfl) rfl #[.agg #[.int .u8 a0_0, .bool a0_1, .int .i64 a0_2, .string a0_3]] rfl (by (try simp only [List.map_toArray, List.map_cons, List.map_nil]); first | done | rfl | (simp only [List.length_drop, List.length_take]; rfl)) ?_; (with_reducible refine (monikerref8_Right.calls a0_0 a0_1 a0_2 a0_3 true _ A134.out).mono ?_); rintro e w141 ⟨rfl, hb⟩; refine ⟨_, rfl, ?_⟩; have n0_ := Aside0.mk (blk_below (g := gb263) (o := .cells #[.int .u8 a0_0, .bool a0_1, .int .i64 a0_2, .string a0_3] 25 (0, 0)) (by (with_reducible repeat (first | refine blk_drewN ?_ _ | refine blk_drew ?_ | refine blk_alloc ?_ _)); exact BK263.out) hb); have n1_ := Aside0.mk (blk_below (g := gb264) (o := .cells #[.int .u8 a1_0, .bool a1_1, .int .i64 a1_2, .string a1_3] 25 (0, 0)) (by (with_reducible repeat (first | refine blk_drewN ?_ _ | refine blk_drew ?_ | refine blk_alloc ?_ _)); exact BK264.out) hb); have n2_ := Aside0.mk (blk_below (g := gb265) (o := .cells #[.int .u8 a2_0, .bool a2_1, .int .i64 a2_2, .string a2_3] 25 (0, 0)) (by (with_reducible repeat (first | refine blk_drewN ?_ _ | refine blk_drew ?_ | refine blk_alloc ?_ _)); exact BK265.out) hb); have n3_ := Aside0.mk (below_step (by repeat (first | (with_reducible first | exact HB.out | apply below_alloc | apply pw_below_drewN | apply below_drew1 | refine below_set ?_ GE263.out | refine below_set ?_ GE264.out | refine below_set ?_ GE265.out) | exact HB.out)) hb); clear BK263; clear BK264; clear BK265; clear HB; have BK263 := n0_; have BK264 := n1_; have BK265 := n2_; have HB := n3_; clear n0_ n1_ n2_ n3_; (try clear hb); (try clear hb2); (try clear hk); (try clear hi); (try have hcy0_0 : w141.cell? ⟨gb263, 0, none⟩ = some (.int .u8 a0_0) := (blk_cell BK263.out 0).trans rfl); (try have hcy0_1 : w141.cell? ⟨gb263, 1, none⟩ = some (.bool a0_1) := (blk_cell BK263.out 1).trans rfl); (try have hcy0_2 : w141.cell? ⟨gb263, 2, none⟩ = some (.int .i64 a0_2) := (blk_cell BK263.out 2).trans rfl); (try have hcy0_3 : w141.cell? ⟨gb263, 3, none⟩ = some (.string a0_3) := (blk_cell BK263.out 3).trans rfl); (try have hcy1_0 : w141.cell? ⟨gb264, 0, none⟩ = some (.int .u8 a1_0) := (blk_cell BK264.out 0).trans rfl); (try have hcy1_1 : w141.cell? ⟨gb264, 1, none⟩ = some (.bool a1_1) := (blk_cell BK264.out 1).trans rfl); (try have hcy1_2 : w141.cell? ⟨gb264, 2, none⟩ = some (.int .i64 a1_2) := (blk_cell BK264.out 2).trans rfl); (try have hcy1_3 : w141.cell? ⟨gb264, 3, none⟩ = some (.string a1_3) := (blk_cell BK264.out 3).trans rfl); (try have hcy2_0 : w141.cell? ⟨gb265, 0, none⟩ = some (.int .u8 a2_0) := (blk_cell BK265.out 0).trans rfl); (try have hcy2_1 : w141.cell? ⟨gb265, 1, none⟩ = some (.bool a2_1) := (blk_cell BK265.out 1).trans rfl); (try have hcy2_2 : w141.cell? ⟨gb265, 2, none⟩ = some (.int .i64 a2_2) := (blk_cell BK265.out 2).trans rfl); (try have hcy2_3 : w141.cell? ⟨gb265, 3, none⟩ = some (.string a2_3) := (blk_cell BK265.out 3).trans rfl); have hnb142 := NB264_265.out; have hnc142 := NB265_264.out; have hcz143_0 : w141.cell? ⟨gb264, 0, none⟩ = some (.int .u8 a1_0) := (blk_cell BK264.out 0).trans rfl; have hcz143_1 : w141.cell? ⟨gb264, 1, none⟩ = some (.bool a1_1) := (blk_cell BK264.out 1).trans rfl; have hcz143_2 : w141.cell? ⟨gb264, 2, none⟩ = some (.int .i64 a1_2) := (blk_cell BK264.out 2).trans rfl; have hcz143_3 : w141.cell? ⟨gb264, 3, none⟩ = some (.string a1_3) := (blk_cell BK264.out 3).trans rfl; have hfz143_0 := blk_frozen BK264.out 0; have hfz143_1 := blk_frozen BK264.out 1; have hfz143_2 := blk_frozen BK264.out 2; have hfz143_3 := blk_frozen BK264.out 3) | (go_at_call 13; (with_reducible refine (monikerref8_Right.calls a1_0 a1_1 a1_2 a1_3 true _ A136.out).mono ?_); rintro e w144 ⟨rfl, hb⟩; have n0_ := Aside0.mk (blk_below (g := gb263) (o := .cells #[.int .u8 a0_0, .bool a0_1, .int .i64 a0_2, .string a0_3] 25 (0, 0)) (by (with_reducible repeat (first | refine blk_drewN ?_ _ | refine blk_drew ?_ | refine blk_alloc ?_ _)); exact BK263.out) hb); have n1_ := Aside0.mk (blk_below (g := gb264) (o := .cells #[.int .u8 a1_0, .bool a1_1, .int .i64 a1_2, .string a1_3] 25 (0, 0)) (by (with_reducible repeat (first | refine blk_drewN ?_ _ | refine blk_drew ?_ | refine blk_alloc ?_ _)); exact BK264.out) hb); have n2_ := Aside0.mk (blk_below (g := gb265) (o := .cells #[.int .u8 a2_0, .bool a2_1, .int .i64 a2_2, .string a2_3] 25 (0, 0)) (by (with_reducible repeat (first | refine blk_drewN ?_ _ | refine blk_drew ?_ | refine blk_alloc ?_ _)); exact BK265.out) hb); have n3_ := Aside0.mk (below_step (by repeat (first | (with_reducible first | exact HB.out | apply below_alloc | apply pw_below_drewN | apply below_drew1 | refine below_set ?_ GE263.out | refine below_set ?_ GE264.out | refine below_set ?_ GE265.out) | exact HB.out)) hb); clear BK263; clear BK264; clear BK265; clear HB; have BK263 := n0_; have BK264 := n1_; have BK265 := n2_; have HB := n3_; clear n0_ n1_ n2_ n3_; (try clear hb); (try clear hb2); (try clear hk); (try clear hi); (try have hcy0_0 : w144.cell? ⟨gb263, 0, none⟩ = some (.int .u8 a0_0) := (blk_cell BK263.out 0).trans rfl); (try have hcy0_1 : w144.cell? ⟨gb263, 1, none⟩ = some (.bool a0_1) := (blk_cell BK263.out 1).trans rfl); (try have hcy0_2 : w144.cell? ⟨gb263, 2, none⟩ = some (.int .i64 a0_2) := (blk_cell BK263.out 2).trans rfl); (try have hcy0_3 : w144.cell? ⟨gb263, 3, none⟩ = some (.string a0_3) := (blk_cell BK263.out 3).trans rfl); (try have hcy1_0 : w144.cell? ⟨gb264, 0, none⟩ = some (.int .u8 a1_0) := (blk_cell BK264.out 0).trans rfl); (try have hcy1_1 : w144.cell? ⟨gb264, 1, none⟩ = some (.bool a1_1) := (blk_cell BK264.out 1).trans rfl); (try have hcy1_2 : w144.cell? ⟨gb264, 2, none⟩ = some (.int .i64 a1_2) := (blk_cell BK264.out 2).trans rfl); (try have hcy1_3 : w144.cell? ⟨gb264, 3, none⟩ = some (.string a1_3) := (blk_cell BK264.out 3).trans rfl); (try have hcy2_0 : w144.cell? ⟨gb265, 0, none⟩ = some (.int .u8 a2_0) := (blk_cell BK265.out 0).trans rfl); (try have hcy2_1 : w144.cell? ⟨gb265, 1, none⟩ = some (.bool a2_1) := (blk_cell BK265.out 1).trans rfl); (try have hcy2_2 : w144.cell? ⟨gb265, 2, none⟩ = some (.int .i64 a2_2) := (blk_cell BK265.out 2).trans rfl); (try have hcy2_3 : w144.cell? ⟨gb265, 3, none⟩ = some (.string a2_3) := (blk_cell BK265.out 3).trans rfl); have hcz145_0 : w144.cell? ⟨gb263, 0, none⟩ = some (.int .u8 a0_0) := (blk_cell BK263.out 0).trans rfl; have hcz145_1 : w144.cell? ⟨gb263, 1, none⟩ = some (.bool a0_1) := (blk_cell BK263.out 1).trans rfl; have hcz145_2 : w144.cell? ⟨gb263, 2, none⟩ = some (.int .i64 a0_2) := (blk_cell BK263.out 2).trans rfl; have hcz145_3 : w144.cell? ⟨gb263, 3, none⟩ = some (.string a0_3) := (blk_cell BK263.out 3).trans rfl; have hfz145_0 := blk_frozen BK263.out 0; have hfz145_1 := blk_frozen BK263.out 1; have hfz145_2 := blk_frozen BK263.out 2; have hfz145_3 := blk_frozen BK263.out 3; have hcz146_0 : w144.cell? ⟨gb264, 0, none⟩ = some (.int .u8 a1_0) := (blk_cell BK264.out 0).trans rfl; have hcz146_1 : w144.cell? ⟨gb264, 1, none⟩ = some (.bool a1_1) := (blk_cell BK264.out 1).trans rfl; have hcz146_2 : w144.cell? ⟨gb264, 2, none⟩ = some (.int .i64 a1_2) := (blk_cell BK264.out 2).trans rfl; have hcz146_3 : w144.cell? ⟨gb264, 3, none⟩ = some (.string a1_3) := (blk_cell BK264.out 3).trans rfl; have hfz146_0 := blk_frozen BK264.out 0; have hfz146_1 := blk_frozen BK264.out 1; have hfz146_2 := blk_frozen BK264.out 2; have hfz146_3 := blk_frozen BK264.out 3))
              go_meet
              case rel => exact ⟨_, ((a0_0 != a1_0)), (by first | rfl | (simp; done) | (simp [*]; done)), H', ⟨by have := HJ3.out; first | omega | exact Nat.le_refl _⟩, ⟨by (with_reducible repeat (first | refine blk_drewN ?_ _ | refine blk_drew ?_ | refine blk_alloc ?_ _)); exact BK263.out⟩, ⟨by (with_reducible repeat (first | refine blk_drewN ?_ _ | refine blk_drew ?_ | refine blk_alloc ?_ _)); exact BK264.out⟩, ⟨by (with_reducible repeat (first | refine blk_drewN ?_ _ | refine blk_drew ?_ | refine blk_alloc ?_ _)); exact BK265.out⟩, ⟨by repeat (first | (with_reducible first | exact HB.out | apply below_alloc | apply pw_below_drewN | apply below_drew1 | refine below_set ?_ GE263.out | refine below_set ?_ GE264.out | refine below_set ?_ GE265.out) | exact HB.out)⟩⟩
            · replace c137 := Bool.eq_false_iff.mpr c137
              subst c137
              have H1 : (monikerlaw8_ConstOrder.j1 kj3 true a0_0 a0_1 a0_2 a0_3 a1_0 a1_1 a1_2 a1_3) = some r := by rw [if_neg (show ¬ (false = true) by decide)] at H; exact H
              clear H
              have H := H1
              clear H1
              have H' := Aside0.mk H
              clear H
              have hnb147 := NB263_264.out
              have hnc147 := NB264_263.out
              have hnb148 := NB263_265.out
              have hnc148 := NB265_263.out
              have hcz149_0 : wc.cell? ⟨gb263, 0, none⟩ = some (.int .u8 a0_0) := (blk_cell BK263.out 0).trans rfl
              have hcz149_1 : wc.cell? ⟨gb263, 1, none⟩ = some (.bool a0_1) := (blk_cell BK263.out 1).trans rfl
              have hcz149_2 : wc.cell? ⟨gb263, 2, none⟩ = some (.int .i64 a0_2) := (blk_cell BK263.out 2).trans rfl
              have hcz149_3 : wc.cell? ⟨gb263, 3, none⟩ = some (.string a0_3) := (blk_cell BK263.out 3).trans rfl
              have hfz149_0 := blk_frozen BK263.out 0
              have hfz149_1 := blk_frozen BK263.out 1
              have hfz149_2 := blk_frozen BK263.out 2
              have hfz149_3 := blk_frozen BK263.out 3
              go_wp2_with (first | ((with_reducible refine gate_callee (f := 13) rfl ?_); refine goesL_ (some 39) rfl rfl Tryd.func13 (by kernel_rfl) rfl #[.agg #[.int .u8 a0_0, .bool a0_1, .int .i64 a0_2, .string a0_3]] rfl (by (try simp only [List.map_toArray, List.map_cons, List.map_nil]); first | done | rfl | (simp only [List.length_drop, List.length_take]; rfl)) ?_; (with_reducible refine (monikerref8_Right.calls a0_0 a0_1 a0_2 a0_3 true _ A134.out).mono ?_); rintro e w150 ⟨rfl, hb⟩; refine ⟨_, rfl, ?_⟩; have n0_ := Aside0.mk (blk_below (g := gb263) (o := .cells #[.int .u8 a0_0, .bool a0_1, .int .i64 a0_2, .string a0_3] 25 (0, 0)) (by (with_reducible repeat (first | refine blk_drewN ?_ _ | refine blk_drew ?_ | refine blk_alloc ?_ _)); exact BK263.out) hb); have n1_ := Aside0.mk (blk_below (g := gb264) (o := .cells #[.int .u8 a1_0, .bool a1_1, .int .i64 a1_2, .string a1_3] 25 (0, 0)) (by (with_reducible repeat (first | refine blk_drewN ?_ _ | refine blk_drew ?_ | refine blk_alloc ?_ _)); exact BK264.out) hb); have n2_ := Aside0.mk (blk_below (g := gb265) (o := .cells #[.int .u8 a2_0, .bool a2_1, .int .i64 a2_2, .string a2_3] 25 (0, 0)) (by (with_reducible repeat (first | refine blk_drewN ?_ _ | refine blk_drew ?_ | refine blk_alloc ?_ _)); exact BK265.out) hb); have n3_ := Aside0.mk (below_step (by repeat (first | (with_reducible first | exact HB.out | apply below_alloc | apply pw_below_drewN | apply below_drew1 | refine below_set ?_ GE263.out | refine below_set ?_ GE264.out | refine below_set ?_ GE265.out) | exact HB.out)) hb); clear BK263; clear BK264; clear BK265; clear HB; have BK263 := n0_; have BK264 := n1_; have BK265 := n2_; have HB := n3_; clear n0_ n1_ n2_ n3_; (try clear hb); (try clear hb2); (try clear hk); (try clear hi); (try have hcy0_0 : w150.cell? ⟨gb263, 0, none⟩ = some (.int .u8 a0_0) := (blk_cell BK263.out 0).trans rfl); (try have hcy0_1 : w150.cell? ⟨gb263, 1, none⟩ = some (.bool a0_1) := (blk_cell BK263.out 1).trans rfl); (try have hcy0_2 : w150.cell? ⟨gb263, 2, none⟩ = some (.int .i64 a0_2) := (blk_cell BK263.out 2).trans rfl); (try have hcy0_3 : w150.cell? ⟨gb263, 3, none⟩ = some (.string a0_3) := (blk_cell BK263.out 3).trans rfl); (try have hcy1_0 : w150.cell? ⟨gb264, 0, none⟩ = some (.int .u8 a1_0) := (blk_cell BK264.out 0).trans rfl); (try have hcy1_1 : w150.cell? ⟨gb264, 1, none⟩ = some (.bool a1_1) := (blk_cell BK264.out 1).trans rfl); (try have hcy1_2 : w150.cell? ⟨gb264, 2, none⟩ = some (.int .i64 a1_2) := (blk_cell BK264.out 2).trans rfl); (try have hcy1_3 : w150.cell? ⟨gb264, 3, none⟩ = some (.string a1_3) := (blk_cell BK264.out 3).trans rfl); (try have hcy2_0 : w150.cell? ⟨gb265, 0, none⟩ = some (.int .u8 a2_0) := (blk_cell BK265.out 0).trans rfl); (try have hcy2_1 : w150.cell? ⟨gb265, 1, none⟩ = some (.bool a2_1) := (blk_cell BK265.out 1).trans rfl); (try have hcy2_2 : w150.cell? ⟨gb265, 2, none⟩ = some (.int .i64 a2_2) := (blk_cell BK265.out 2).trans rfl); (try have hcy2_3 : w150.cell? ⟨gb265, 3, none⟩ = some (.string a2_3) := (blk_cell BK265.out 3).trans rfl); have hnb151 := NB264_265.out; have hnc151 := NB265_264.out; have hcz152_0 : w150.cell? ⟨gb264, 0, none⟩ = some (.int .u8 a1_0) := (blk_cell BK264.out 0).trans rfl; have hcz152_1 : w150.cell? ⟨gb264, 1, none⟩ = some (.bool a1_1) := (blk_cell BK264.out 1).trans rfl; have hcz152_2 : w150.cell? ⟨gb264, 2, none⟩ = some (.int .i64 a1_2) := (blk_cell BK264.out 2).trans rfl; have hcz152_3 : w150.cell? ⟨gb264, 3, none⟩ = some (.string a1_3) := (blk_cell BK264.out 3).trans rfl; have hfz152_0 := blk_frozen BK264.out 0; have hfz152_1 := blk_frozen BK264.out 1; have hfz152_2 := blk_frozen BK264.out 2; have hfz152_3 := blk_frozen BK264.out 3) | (go_at_call 13; (with_reducible refine (monikerref8_Right.calls a1_0 a1_1 a1_2 a1_3 false _ A136.out).mono ?_); rintro e w153 ⟨rfl, hb⟩; have n0_ := Aside0.mk (blk_below (g := gb263) (o := .cells #[.int .u8 a0_0, .bool a0_1, .int .i64 a0_2, .string a0_3] 25 (0, 0)) (by (with_reducible repeat (first | refine blk_drewN ?_ _ | refine blk_drew ?_ | refine blk_alloc ?_ _)); exact BK263.out) hb); have n1_ := Aside0.mk (blk_below (g := gb264) (o := .cells #[.int .u8 a1_0, .bool a1_1, .int .i64 a1_2, .string a1_3] 25 (0, 0)) (by (with_reducible repeat (first | refine blk_drewN ?_ _ | refine blk_drew ?_ | refine blk_alloc ?_ _)); exact BK264.out) hb); have n2_ := Aside0.mk (blk_below (g := gb265) (o := .cells #[.int .u8 a2_0, .bool a2_1, .int .i64 a2_2, .string a2_3] 25 (0, 0)) (by (with_reducible repeat (first | refine blk_drewN ?_ _ | refine blk_drew ?_ | refine blk_alloc ?_ _)); exact BK265.out) hb); have n3_ := Aside0.mk (below_step (by repeat (first | (with_reducible first | exact HB.out | apply below_alloc | apply pw_below_drewN | apply below_drew1 | refine below_set ?_ GE263.out | refine below_set ?_ GE264.out | refine below_set ?_ GE265.out) | exact HB.out)) hb); clear BK263; clear BK264; clear BK265; clear HB; have BK263 := n0_; have BK264 := n1_; have BK265 := n2_; have HB := n3_; clear n0_ n1_ n2_ n3_; (try clear hb); (try clear hb2); (try clear hk); (try clear hi)))
              go_meet
              case rel => exact ⟨_, (true), (by first | rfl | (simp; done) | (simp [*]; done)), H', ⟨by have := HJ3.out; first | omega | exact Nat.le_refl _⟩, ⟨by (with_reducible repeat (first | refine blk_drewN ?_ _ | refine blk_drew ?_ | refine blk_alloc ?_ _)); exact BK263.out⟩, ⟨by (with_reducible repeat (first | refine blk_drewN ?_ _ | refine blk_drew ?_ | refine blk_alloc ?_ _)); exact BK264.out⟩, ⟨by (with_reducible repeat (first | refine blk_drewN ?_ _ | refine blk_drew ?_ | refine blk_alloc ?_ _)); exact BK265.out⟩, ⟨by repeat (first | (with_reducible first | exact HB.out | apply below_alloc | apply pw_below_drewN | apply below_drew1 | refine below_set ?_ GE263.out | refine below_set ?_ GE264.out | refine below_set ?_ GE265.out) | exact HB.out)⟩⟩
          · replace c135 := Bool.eq_false_iff.mpr c135
            subst c135
            have H1 : (monikerlaw8_ConstOrder.j1 kj3 true a0_0 a0_1 a0_2 a0_3 a1_0 a1_1 a1_2 a1_3) = some r := by rw [if_neg (show ¬ (false = true) by decide)] at H; exact H
            clear H
            have H := H1
            clear H1
            have H' := Aside0.mk H
            clear H
            have hnb154 := NB263_264.out
            have hnc154 := NB264_263.out
            have hnb155 := NB263_265.out
            have hnc155 := NB265_263.out
            have hcz156_0 : wc.cell? ⟨gb263, 0, none⟩ = some (.int .u8 a0_0) := (blk_cell BK263.out 0).trans rfl
            have hcz156_1 : wc.cell? ⟨gb263, 1, none⟩ = some (.bool a0_1) := (blk_cell BK263.out 1).trans rfl
            have hcz156_2 : wc.cell? ⟨gb263, 2, none⟩ = some (.int .i64 a0_2) := (blk_cell BK263.out 2).trans rfl
            have hcz156_3 : wc.cell? ⟨gb263, 3, none⟩ = some (.string a0_3) := (blk_cell BK263.out 3).trans rfl
            have hfz156_0 := blk_frozen BK263.out 0
            have hfz156_1 := blk_frozen BK263.out 1
            have hfz156_2 := blk_frozen BK263.out 2
            have hfz156_3 := blk_frozen BK263.out 3
            go_wp2_with (first | ((with_reducible refine gate_callee (f := 13) rfl ?_); refine goesL_ (some 39) rfl rfl Tryd.func13 (by kernel_rfl) rfl #[.agg #[.int .u8 a0_0, .bool a0_1, .int .i64 a0_2, .string a0_3]] rfl (by (try simp only [List.map_toArray, List.map_cons, List.map_nil]); first | done | rfl | (simp only [List.length_drop, List.length_take]; rfl)) ?_; (with_reducible refine (monikerref8_Right.calls a0_0 a0_1 a0_2 a0_3 false _ A134.out).mono ?_); rintro e w157 ⟨rfl, hb⟩; refine ⟨_, rfl, ?_⟩; have n0_ := Aside0.mk (blk_below (g := gb263) (o := .cells #[.int .u8 a0_0, .bool a0_1, .int .i64 a0_2, .string a0_3] 25 (0, 0)) (by (with_reducible repeat (first | refine blk_drewN ?_ _ | refine blk_drew ?_ | refine blk_alloc ?_ _)); exact BK263.out) hb); have n1_ := Aside0.mk (blk_below (g := gb264) (o := .cells #[.int .u8 a1_0, .bool a1_1, .int .i64 a1_2, .string a1_3] 25 (0, 0)) (by (with_reducible repeat (first | refine blk_drewN ?_ _ | refine blk_drew ?_ | refine blk_alloc ?_ _)); exact BK264.out) hb); have n2_ := Aside0.mk (blk_below (g := gb265) (o := .cells #[.int .u8 a2_0, .bool a2_1, .int .i64 a2_2, .string a2_3] 25 (0, 0)) (by (with_reducible repeat (first | refine blk_drewN ?_ _ | refine blk_drew ?_ | refine blk_alloc ?_ _)); exact BK265.out) hb); have n3_ := Aside0.mk (below_step (by repeat (first | (with_reducible first | exact HB.out | apply below_alloc | apply pw_below_drewN | apply below_drew1 | refine below_set ?_ GE263.out | refine below_set ?_ GE264.out | refine below_set ?_ GE265.out) | exact HB.out)) hb); clear BK263; clear BK264; clear BK265; clear HB; have BK263 := n0_; have BK264 := n1_; have BK265 := n2_; have HB := n3_; clear n0_ n1_ n2_ n3_; (try clear hb); (try clear hb2); (try clear hk); (try clear hi)))
            go_meet
            case rel => exact ⟨_, (true), (by first | rfl | (simp; done) | (simp [*]; done)), H', ⟨by have := HJ3.out; first | omega | exact Nat.le_refl _⟩, ⟨by (with_reducible repeat (first | refine blk_drewN ?_ _ | refine blk_drew ?_ | refine blk_alloc ?_ _)); exact BK263.out⟩, ⟨by (with_reducible repeat (first | refine blk_drewN ?_ _ | refine blk_drew ?_ | refine blk_alloc ?_ _)); exact BK264.out⟩, ⟨by (with_reducible repeat (first | refine blk_drewN ?_ _ | refine blk_drew ?_ | refine blk_alloc ?_ _)); exact BK265.out⟩, ⟨by repeat (first | (with_reducible first | exact HB.out | apply below_alloc | apply pw_below_drewN | apply below_drew1 | refine below_set ?_ GE263.out | refine below_set ?_ GE264.out | refine below_set ?_ GE265.out) | exact HB.out)⟩⟩
        case rest =>
          clear HC133
          try clear c1
          try clear c2
          try clear p2
          try clear c3
          try clear c5
          try clear c7
          try clear c8
          try clear c9
          try clear c10
          try clear c11
          try clear c12
          try clear c13
          try clear c14
          try clear c15
          try clear c17
          try clear c18
          try clear c19
          try clear c23
          try clear c30
          try clear c32
          try clear c34
          try clear c35
          try clear c39
          try clear c54
          try clear c55
          try clear c59
          try clear c71
          try clear c72
          try clear c76
          try clear c86
          try clear c88
          try clear c90
          try clear c91
          try clear c95
          try clear c107
          try clear c108
          try clear c112
          try clear c121
          try clear c122
          try clear c126
          try clear c132
          try clear c135
          try clear c137
          try clear c138
          try clear c139
          try clear c142
          try clear c147
          try clear c148
          try clear c151
          try clear c154
          try clear c155
          try clear hcz101_0
          try clear hcz101_1
          try clear hcz101_2
          try clear hcz101_3
          try clear hcz102_0
          try clear hcz102_1
          try clear hcz102_2
          try clear hcz102_3
          try clear hcz104_0
          try clear hcz104_1
          try clear hcz104_2
          try clear hcz104_3
          try clear hcz105_0
          try clear hcz105_1
          try clear hcz105_2
          try clear hcz105_3
          try clear hcz109_0
          try clear hcz109_1
          try clear hcz109_2
          try clear hcz109_3
          try clear hcz111_0
          try clear hcz111_1
          try clear hcz111_2
          try clear hcz111_3
          try clear hcz113_0
          try clear hcz113_1
          try clear hcz113_2
          try clear hcz113_3
          try clear hcz115_0
          try clear hcz115_1
          try clear hcz115_2
          try clear hcz115_3
          try clear hcz116_0
          try clear hcz116_1
          try clear hcz116_2
          try clear hcz116_3
          try clear hcz118_0
          try clear hcz118_1
          try clear hcz118_2
          try clear hcz118_3
          try clear hcz119_0
          try clear hcz119_1
          try clear hcz119_2
          try clear hcz119_3
          try clear hcz123_0
          try clear hcz123_1
          try clear hcz123_2
          try clear hcz123_3
          try clear hcz125_0
          try clear hcz125_1
          try clear hcz125_2
          try clear hcz125_3
          try clear hcz127_0
          try clear hcz127_1
          try clear hcz127_2
          try clear hcz127_3
          try clear hcz129_0
          try clear hcz129_1
          try clear hcz129_2
          try clear hcz129_3
          try clear hcz12_0
          try clear hcz12_1
          try clear hcz12_2
          try clear hcz12_3
          try clear hcz130_0
          try clear hcz130_1
          try clear hcz130_2
          try clear hcz130_3
          try clear hcz140_0
          try clear hcz140_1
          try clear hcz140_2
          try clear hcz140_3
          try clear hcz143_0
          try clear hcz143_1
          try clear hcz143_2
          try clear hcz143_3
          try clear hcz145_0
          try clear hcz145_1
          try clear hcz145_2
          try clear hcz145_3
          try clear hcz146_0
          try clear hcz146_1
          try clear hcz146_2
          try clear hcz146_3
          try clear hcz149_0
          try clear hcz149_1
          try clear hcz149_2
          try clear hcz149_3
          try clear hcz152_0
          try clear hcz152_1
          try clear hcz152_2
          try clear hcz152_3
          try clear hcz156_0
          try clear hcz156_1
          try clear hcz156_2
          try clear hcz156_3
          try clear hcz20_0
          try clear hcz20_1
          try clear hcz20_2
          try clear hcz20_3
          try clear hcz22_0
          try clear hcz22_1
          try clear hcz22_2
          try clear hcz22_3
          try clear hcz24_0
          try clear hcz24_1
          try clear hcz24_2
          try clear hcz24_3
          try clear hcz26_0
          try clear hcz26_1
          try clear hcz26_2
          try clear hcz26_3
          try clear hcz27_0
          try clear hcz27_1
          try clear hcz27_2
          try clear hcz27_3
          try clear hcz36_0
          try clear hcz36_1
          try clear hcz36_2
          try clear hcz36_3
          try clear hcz38_0
          try clear hcz38_1
          try clear hcz38_2
          try clear hcz38_3
          try clear hcz40_0
          try clear hcz40_1
          try clear hcz40_2
          try clear hcz40_3
          try clear hcz42_0
          try clear hcz42_1
          try clear hcz42_2
          try clear hcz42_3
          try clear hcz43_0
          try clear hcz43_1
          try clear hcz43_2
          try clear hcz43_3
          try clear hcz45_0
          try clear hcz45_1
          try clear hcz45_2
          try clear hcz45_3
          try clear hcz46_0
          try clear hcz46_1
          try clear hcz46_2
          try clear hcz46_3
          try clear hcz48_0
          try clear hcz48_1
          try clear hcz48_2
          try clear hcz48_3
          try clear hcz49_0
          try clear hcz49_1
          try clear hcz49_2
          try clear hcz49_3
          try clear hcz51_0
          try clear hcz51_1
          try clear hcz51_2
          try clear hcz51_3
          try clear hcz52_0
          try clear hcz52_1
          try clear hcz52_2
          try clear hcz52_3
          try clear hcz56_0
          try clear hcz56_1
          try clear hcz56_2
          try clear hcz56_3
          try clear hcz58_0
          try clear hcz58_1
          try clear hcz58_2
          try clear hcz58_3
          try clear hcz60_0
          try clear hcz60_1
          try clear hcz60_2
          try clear hcz60_3
          try clear hcz62_0
          try clear hcz62_1
          try clear hcz62_2
          try clear hcz62_3
          try clear hcz63_0
          try clear hcz63_1
          try clear hcz63_2
          try clear hcz63_3
          try clear hcz65_0
          try clear hcz65_1
          try clear hcz65_2
          try clear hcz65_3
          try clear hcz66_0
          try clear hcz66_1
          try clear hcz66_2
          try clear hcz66_3
          try clear hcz68_0
          try clear hcz68_1
          try clear hcz68_2
          try clear hcz68_3
          try clear hcz69_0
          try clear hcz69_1
          try clear hcz69_2
          try clear hcz69_3
          try clear hcz73_0
          try clear hcz73_1
          try clear hcz73_2
          try clear hcz73_3
          try clear hcz75_0
          try clear hcz75_1
          try clear hcz75_2
          try clear hcz75_3
          try clear hcz77_0
          try clear hcz77_1
          try clear hcz77_2
          try clear hcz77_3
          try clear hcz79_0
          try clear hcz79_1
          try clear hcz79_2
          try clear hcz79_3
          try clear hcz80_0
          try clear hcz80_1
          try clear hcz80_2
          try clear hcz80_3
          try clear hcz82_0
          try clear hcz82_1
          try clear hcz82_2
          try clear hcz82_3
          try clear hcz83_0
          try clear hcz83_1
          try clear hcz83_2
          try clear hcz83_3
          try clear hcz92_0
          try clear hcz92_1
          try clear hcz92_2
          try clear hcz92_3
          try clear hcz94_0
          try clear hcz94_1
          try clear hcz94_2
          try clear hcz94_3
          try clear hcz96_0
          try clear hcz96_1
          try clear hcz96_2
          try clear hcz96_3
          try clear hcz98_0
          try clear hcz98_1
          try clear hcz98_2
          try clear hcz98_3
          try clear hcz99_0
          try clear hcz99_1
          try clear hcz99_2
          try clear hcz99_3
          try clear hfz101_0
          try clear hfz101_1
          try clear hfz101_2
          try clear hfz101_3
          try clear hfz102_0
          try clear hfz102_1
          try clear hfz102_2
          try clear hfz102_3
          try clear hfz104_0
          try clear hfz104_1
          try clear hfz104_2
          try clear hfz104_3
          try clear hfz105_0
          try clear hfz105_1
          try clear hfz105_2
          try clear hfz105_3
          try clear hfz109_0
          try clear hfz109_1
          try clear hfz109_2
          try clear hfz109_3
          try clear hfz111_0
          try clear hfz111_1
          try clear hfz111_2
          try clear hfz111_3
          try clear hfz113_0
          try clear hfz113_1
          try clear hfz113_2
          try clear hfz113_3
          try clear hfz115_0
          try clear hfz115_1
          try clear hfz115_2
          try clear hfz115_3
          try clear hfz116_0
          try clear hfz116_1
          try clear hfz116_2
          try clear hfz116_3
          try clear hfz118_0
          try clear hfz118_1
          try clear hfz118_2
          try clear hfz118_3
          try clear hfz119_0
          try clear hfz119_1
          try clear hfz119_2
          try clear hfz119_3
          try clear hfz123_0
          try clear hfz123_1
          try clear hfz123_2
          try clear hfz123_3
          try clear hfz125_0
          try clear hfz125_1
          try clear hfz125_2
          try clear hfz125_3
          try clear hfz127_0
          try clear hfz127_1
          try clear hfz127_2
          try clear hfz127_3
          try clear hfz129_0
          try clear hfz129_1
          try clear hfz129_2
          try clear hfz129_3
          try clear hfz12_0
          try clear hfz12_1
          try clear hfz12_2
          try clear hfz12_3
          try clear hfz130_0
          try clear hfz130_1
          try clear hfz130_2
          try clear hfz130_3
          try clear hfz140_0
          try clear hfz140_1
          try clear hfz140_2
          try clear hfz140_3
          try clear hfz143_0
          try clear hfz143_1
          try clear hfz143_2
          try clear hfz143_3
          try clear hfz145_0
          try clear hfz145_1
          try clear hfz145_2
          try clear hfz145_3
          try clear hfz146_0
          try clear hfz146_1
          try clear hfz146_2
          try clear hfz146_3
          try clear hfz149_0
          try clear hfz149_1
          try clear hfz149_2
          try clear hfz149_3
          try clear hfz152_0
          try clear hfz152_1
          try clear hfz152_2
          try clear hfz152_3
          try clear hfz156_0
          try clear hfz156_1
          try clear hfz156_2
          try clear hfz156_3
          try clear hfz20_0
          try clear hfz20_1
          try clear hfz20_2
          try clear hfz20_3
          try clear hfz22_0
          try clear hfz22_1
          try clear hfz22_2
          try clear hfz22_3
          try clear hfz24_0
          try clear hfz24_1
          try clear hfz24_2
          try clear hfz24_3
          try clear hfz26_0
          try clear hfz26_1
          try clear hfz26_2
          try clear hfz26_3
          try clear hfz27_0
          try clear hfz27_1
          try clear hfz27_2
          try clear hfz27_3
          try clear hfz36_0
          try clear hfz36_1
          try clear hfz36_2
          try clear hfz36_3
          try clear hfz38_0
          try clear hfz38_1
          try clear hfz38_2
          try clear hfz38_3
          try clear hfz40_0
          try clear hfz40_1
          try clear hfz40_2
          try clear hfz40_3
          try clear hfz42_0
          try clear hfz42_1
          try clear hfz42_2
          try clear hfz42_3
          try clear hfz43_0
          try clear hfz43_1
          try clear hfz43_2
          try clear hfz43_3
          try clear hfz45_0
          try clear hfz45_1
          try clear hfz45_2
          try clear hfz45_3
          try clear hfz46_0
          try clear hfz46_1
          try clear hfz46_2
          try clear hfz46_3
          try clear hfz48_0
          try clear hfz48_1
          try clear hfz48_2
          try clear hfz48_3
          try clear hfz49_0
          try clear hfz49_1
          try clear hfz49_2
          try clear hfz49_3
          try clear hfz51_0
          try clear hfz51_1
          try clear hfz51_2
          try clear hfz51_3
          try clear hfz52_0
          try clear hfz52_1
          try clear hfz52_2
          try clear hfz52_3
          try clear hfz56_0
          try clear hfz56_1
          try clear hfz56_2
          try clear hfz56_3
          try clear hfz58_0
          try clear hfz58_1
          try clear hfz58_2
          try clear hfz58_3
          try clear hfz60_0
          try clear hfz60_1
          try clear hfz60_2
          try clear hfz60_3
          try clear hfz62_0
          try clear hfz62_1
          try clear hfz62_2
          try clear hfz62_3
          try clear hfz63_0
          try clear hfz63_1
          try clear hfz63_2
          try clear hfz63_3
          try clear hfz65_0
          try clear hfz65_1
          try clear hfz65_2
          try clear hfz65_3
          try clear hfz66_0
          try clear hfz66_1
          try clear hfz66_2
          try clear hfz66_3
          try clear hfz68_0
          try clear hfz68_1
          try clear hfz68_2
          try clear hfz68_3
          try clear hfz69_0
          try clear hfz69_1
          try clear hfz69_2
          try clear hfz69_3
          try clear hfz73_0
          try clear hfz73_1
          try clear hfz73_2
          try clear hfz73_3
          try clear hfz75_0
          try clear hfz75_1
          try clear hfz75_2
          try clear hfz75_3
          try clear hfz77_0
          try clear hfz77_1
          try clear hfz77_2
          try clear hfz77_3
          try clear hfz79_0
          try clear hfz79_1
          try clear hfz79_2
          try clear hfz79_3
          try clear hfz80_0
          try clear hfz80_1
          try clear hfz80_2
          try clear hfz80_3
          try clear hfz82_0
          try clear hfz82_1
          try clear hfz82_2
          try clear hfz82_3
          try clear hfz83_0
          try clear hfz83_1
          try clear hfz83_2
          try clear hfz83_3
          try clear hfz92_0
          try clear hfz92_1
          try clear hfz92_2
          try clear hfz92_3
          try clear hfz94_0
          try clear hfz94_1
          try clear hfz94_2
          try clear hfz94_3
          try clear hfz96_0
          try clear hfz96_1
          try clear hfz96_2
          try clear hfz96_3
          try clear hfz98_0
          try clear hfz98_1
          try clear hfz98_2
          try clear hfz98_3
          try clear hfz99_0
          try clear hfz99_1
          try clear hfz99_2
          try clear hfz99_3
          try clear p2
          obtain ⟨kq, x52_132, rfl, HA, HJ132, BK263, BK264, BK265, HB⟩ := hcut
          cases kq with
          | zero => exact absurd HA.out (by simp [monikerlaw8_ConstOrder.j1])
          | succ kj132 =>
            have H := HA.out
            clear HA
            simp only [monikerlaw8_ConstOrder.j1] at H
            by_cases c158 : x52_132 = true
            · subst c158
              have H1 : ((consts_Less.f kj132 a0_0 a0_1 a0_2 a0_3 a1_0 a1_1 a1_2 a1_3).bind fun t277 => (some (!t277))) = some r := by rw [if_pos rfl] at H; exact H
              clear H
              have H := H1
              clear H1
              replace H := Option.bind_eq_some_iff.mp H
              obtain ⟨t277, A1590, H⟩ := H
              replace H : (some (!t277)) = some r := H
              have A159 := Aside0.mk A1590
              clear A1590
              obtain rfl := Option.some.inj H
              have hnb160 := NB263_264.out
              have hnc160 := NB264_263.out
              have hnb161 := NB263_265.out
              have hnc161 := NB265_263.out
              have hcz162_0 : wc.cell? ⟨gb263, 0, none⟩ = some (.int .u8 a0_0) := (blk_cell BK263.out 0).trans rfl
              have hcz162_1 : wc.cell? ⟨gb263, 1, none⟩ = some (.bool a0_1) := (blk_cell BK263.out 1).trans rfl
              have hcz162_2 : wc.cell? ⟨gb263, 2, none⟩ = some (.int .i64 a0_2) := (blk_cell BK263.out 2).trans rfl
              have hcz162_3 : wc.cell? ⟨gb263, 3, none⟩ = some (.string a0_3) := (blk_cell BK263.out 3).trans rfl
              have hfz162_0 := blk_frozen BK263.out 0
              have hfz162_1 := blk_frozen BK263.out 1
              have hfz162_2 := blk_frozen BK263.out 2
              have hfz162_3 := blk_frozen BK263.out 3
              have hnb163 := NB264_265.out
              have hnc163 := NB265_264.out
              have hcz164_0 : wc.cell? ⟨gb264, 0, none⟩ = some (.int .u8 a1_0) := (blk_cell BK264.out 0).trans rfl
              have hcz164_1 : wc.cell? ⟨gb264, 1, none⟩ = some (.bool a1_1) := (blk_cell BK264.out 1).trans rfl
              have hcz164_2 : wc.cell? ⟨gb264, 2, none⟩ = some (.int .i64 a1_2) := (blk_cell BK264.out 2).trans rfl
              have hcz164_3 : wc.cell? ⟨gb264, 3, none⟩ = some (.string a1_3) := (blk_cell BK264.out 3).trans rfl
              have hfz164_0 := blk_frozen BK264.out 0
              have hfz164_1 := blk_frozen BK264.out 1
              have hfz164_2 := blk_frozen BK264.out 2
              have hfz164_3 := blk_frozen BK264.out 3
              go_wp2_with (first | ((with_reducible refine gate_callee (f := 12) rfl ?_); refine goesL_ (some 55) rfl rfl Tryd.func12 (by kernel_rfl) rfl #[.agg #[.int .u8 a0_0, .bool a0_1, .int .i64 a0_2, .string a0_3], .agg #[.int .u8 a1_0, .bool a1_1, .int .i64 a1_2, .string a1_3]] rfl (by (try simp only [List.map_toArray, List.map_cons, List.map_nil]); first | done | rfl | (simp only [List.length_drop, List.length_take]; rfl)) ?_; (with_reducible refine (consts_Less.calls kj132 a0_0 a0_1 a0_2 a0_3 a1_0 a1_1 a1_2 a1_3 t277 _ A159.out).mono ?_); rintro e w165 ⟨rfl, hb⟩; refine ⟨_, rfl, ?_⟩; have n0_ := Aside0.mk (blk_below (g := gb263) (o := .cells #[.int .u8 a0_0, .bool a0_1, .int .i64 a0_2, .string a0_3] 25 (0, 0)) (by (with_reducible repeat (first | refine blk_drewN ?_ _ | refine blk_drew ?_ | refine blk_alloc ?_ _)); exact BK263.out) hb); have n1_ := Aside0.mk (blk_below (g := gb264) (o := .cells #[.int .u8 a1_0, .bool a1_1, .int .i64 a1_2, .string a1_3] 25 (0, 0)) (by (with_reducible repeat (first | refine blk_drewN ?_ _ | refine blk_drew ?_ | refine blk_alloc ?_ _)); exact BK264.out) hb); have n2_ := Aside0.mk (blk_below (g := gb265) (o := .cells #[.int .u8 a2_0, .bool a2_1, .int .i64 a2_2, .string a2_3] 25 (0, 0)) (by (with_reducible repeat (first | refine blk_drewN ?_ _ | refine blk_drew ?_ | refine blk_alloc ?_ _)); exact BK265.out) hb); have n3_ := Aside0.mk (below_step (by repeat (first | (with_reducible first | exact HB.out | apply below_alloc | apply pw_below_drewN | apply below_drew1 | refine below_set ?_ GE263.out | refine below_set ?_ GE264.out | refine below_set ?_ GE265.out) | exact HB.out)) hb); clear BK263; clear BK264; clear BK265; clear HB; have BK263 := n0_; have BK264 := n1_; have BK265 := n2_; have HB := n3_; clear n0_ n1_ n2_ n3_; (try clear hb); (try clear hb2); (try clear hk); (try clear hi)))
              go_ret
              exact ⟨by first | rfl | (simp [errW_none, errW_some] <;> rfl) | (simp [*, errW_none, errW_some] <;> rfl), by repeat (first | (with_reducible first | exact HB.out | apply below_alloc | apply pw_below_drewN | apply below_drew1 | refine below_set ?_ GE263.out | refine below_set ?_ GE264.out | refine below_set ?_ GE265.out) | exact HB.out)⟩
            · replace c158 := Bool.eq_false_iff.mpr c158
              subst c158
              have H1 : ((consts_Less.f kj132 a0_0 a0_1 a0_2 a0_3 a1_0 a1_1 a1_2 a1_3).bind fun t278 => (if t278 = true then (monikerlaw8_ConstOrder.j2 kj132 false a0_0 a0_1 a0_2 a0_3 a1_0 a1_1 a1_2 a1_3) else ((consts_Less.f kj132 a1_0 a1_1 a1_2 a1_3 a0_0 a0_1 a0_2 a0_3).bind fun t279 => (if t279 = true then (monikerlaw8_ConstOrder.j2 kj132 false a0_0 a0_1 a0_2 a0_3 a1_0 a1_1 a1_2 a1_3) else (monikerlaw8_ConstOrder.j2 kj132 (!(a0_0 == a1_0) || (!(a0_1 == a1_1) || (!(a0_2 == a1_2) || (!(a0_3.toList == a1_3.toList))))) a0_0 a0_1 a0_2 a0_3 a1_0 a1_1 a1_2 a1_3))))) = some r := by rw [if_neg (show ¬ (false = true) by decide)] at H; exact H
              clear H
              have H := H1
              clear H1
              have HC166 := Aside0.mk H
              clear H
              go_upto_region 5 with (fail)
              go_cut [71] (fun v71 wc => ∃ (kq : Nat) (x71_165 : Bool), v71 = .bool x71_165 ∧ Aside0 (monikerlaw8_ConstOrder.j2 kq x71_165 a0_0 a0_1 a0_2 a0_3 a1_0 a1_1 a1_2 a1_3 = some r) ∧ Aside0 (kq ≤ kj132) ∧ Aside0 (wc.heap[gb263]? = some (.cells #[.int .u8 a0_0, .bool a0_1, .int .i64 a0_2, .string a0_3] 25 (0, 0))) ∧ Aside0 (wc.heap[gb264]? = some (.cells #[.int .u8 a1_0, .bool a1_1, .int .i64 a1_2, .string a1_3] 25 (0, 0))) ∧ Aside0 (wc.heap[gb265]? = some (.cells #[.int .u8 a2_0, .bool a2_1, .int .i64 a2_2, .string a2_3] 25 (0, 0))) ∧ Aside0 (Below w.heap.size w wc))
              case first =>
                have H := HC166.out
                clear HC166
                replace H := Option.bind_eq_some_iff.mp H
                obtain ⟨t278, A1670, H⟩ := H
                replace H : (if t278 = true then (monikerlaw8_ConstOrder.j2 kj132 false a0_0 a0_1 a0_2 a0_3 a1_0 a1_1 a1_2 a1_3) else ((consts_Less.f kj132 a1_0 a1_1 a1_2 a1_3 a0_0 a0_1 a0_2 a0_3).bind fun t279 => (if t279 = true then (monikerlaw8_ConstOrder.j2 kj132 false a0_0 a0_1 a0_2 a0_3 a1_0 a1_1 a1_2 a1_3) else (monikerlaw8_ConstOrder.j2 kj132 (!(a0_0 == a1_0) || (!(a0_1 == a1_1) || (!(a0_2 == a1_2) || (!(a0_3.toList == a1_3.toList))))) a0_0 a0_1 a0_2 a0_3 a1_0 a1_1 a1_2 a1_3)))) = some r := H
                have A167 := Aside0.mk A1670
                clear A1670
                by_cases c168 : t278 = true
                · subst c168
                  have H1 : (monikerlaw8_ConstOrder.j2 kj132 false a0_0 a0_1 a0_2 a0_3 a1_0 a1_1 a1_2 a1_3) = some r := by rw [if_pos rfl] at H; exact H
                  clear H
                  have H := H1
                  clear H1
                  have H' := Aside0.mk H
                  clear H
                  have hnb169 := NB263_264.out
                  have hnc169 := NB264_263.out
                  have hnb170 := NB263_265.out
                  have hnc170 := NB265_263.out
                  have hcz171_0 : wc.cell? ⟨gb263, 0, none⟩ = some (.int .u8 a0_0) := (blk_cell BK263.out 0).trans rfl
                  have hcz171_1 : wc.cell? ⟨gb263, 1, none⟩ = some (.bool a0_1) := (blk_cell BK263.out 1).trans rfl
                  have hcz171_2 : wc.cell? ⟨gb263, 2, none⟩ = some (.int .i64 a0_2) := (blk_cell BK263.out 2).trans rfl
                  have hcz171_3 : wc.cell? ⟨gb263, 3, none⟩ = some (.string a0_3) := (blk_cell BK263.out 3).trans rfl
                  have hfz171_0 := blk_frozen BK263.out 0
                  have hfz171_1 := blk_frozen BK263.out 1
                  have hfz171_2 := blk_frozen BK263.out 2
                  have hfz171_3 := blk_frozen BK263.out 3
                  have hnb172 := NB264_265.out
                  have hnc172 := NB265_264.out
                  have hcz173_0 : wc.cell? ⟨gb264, 0, none⟩ = some (.int .u8 a1_0) := (blk_cell BK264.out 0).trans rfl
                  have hcz173_1 : wc.cell? ⟨gb264, 1, none⟩ = some (.bool a1_1) := (blk_cell BK264.out 1).trans rfl
                  have hcz173_2 : wc.cell? ⟨gb264, 2, none⟩ = some (.int .i64 a1_2) := (blk_cell BK264.out 2).trans rfl
                  have hcz173_3 : wc.cell? ⟨gb264, 3, none⟩ = some (.string a1_3) := (blk_cell BK264.out 3).trans rfl
                  have hfz173_0 := blk_frozen BK264.out 0
                  have hfz173_1 := blk_frozen BK264.out 1
                  have hfz173_2 := blk_frozen BK264.out 2
                  have hfz173_3 := blk_frozen BK264.out 3
                  go_wp2_with (first | ((with_reducible refine gate_callee (f := 12) rfl ?_); refine goesL_ (some 59) rfl rfl Tryd.func12 (by kernel_rfl) rfl #[.agg #[.int .u8 a0_0, .bool a0_1, .int .i64 a0_2, .string a0_3], .agg #[.int .u8 a1_0, .bool a1_1, .int .i64 a1_2, .string a1_3]] rfl (by (try simp only [List.map_toArray, List.map_cons, List.map_nil]); first | done | rfl | (simp only [List.length_drop, List.length_take]; rfl)) ?_; (with_reducible refine (consts_Less.calls kj132 a0_0 a0_1 a0_2 a0_3 a1_0 a1_1 a1_2 a1_3 true _ A167.out).mono ?_); rintro e w174 ⟨rfl, hb⟩; refine ⟨_, rfl, ?_⟩; have n0_ := Aside0.mk (blk_below (g := gb263) (o := .cells #[.int .u8 a0_0, .bool a0_1, .int .i64 a0_2, .string a0_3] 25 (0, 0)) (by (with_reducible repeat (first | refine blk_drewN ?_ _ | refine blk_drew ?_ | refine blk_alloc ?_ _)); exact BK263.out) hb); have n1_ := Aside0.mk (blk_below (g := gb264) (o := .cells #[.int .u8 a1_0, .bool a1_1, .int .i64 a1_2, .string a1_3] 25 (0, 0)) (by (with_reducible repeat (first | refine blk_drewN ?_ _ | refine blk_drew ?_ | refine blk_alloc ?_ _)); exact BK264.out) hb); have n2_ := Aside0.mk (blk_below (g := gb265) (o := .cells #[.int .u8 a2_0, .bool a2_1, .int .i64 a2_2, .string a2_3] 25 (0, 0)) (by (with_reducible repeat (first | refine blk_drewN ?_ _ | refine blk_drew ?_ | refine blk_alloc ?_ _)); exact BK265.out) hb); have n3_ := Aside0.mk (below_step (by repeat (first | (with_reducible first | exact HB.out | apply below_alloc | apply pw_below_drewN | apply below_drew1 | refine below_set ?_ GE263.out | refine below_set ?_ GE264.out | refine below_set ?_ GE265.out) | exact HB.out)) hb); clear BK263; clear BK264; clear BK265; clear HB; have BK263 := n0_; have BK264 := n1_; have BK265 := n2_; have HB := n3_; clear n0_ n1_ n2_ n3_; (try clear hb); (try clear hb2); (try clear hk); (try clear hi)))
                  go_meet
                  case rel => exact ⟨_, (false), (by first | rfl | (simp; done) | (simp [*]; done)), H', ⟨by have := HJ3.out; have := HJ132.out; first | omega | exact Nat.le_refl _⟩, ⟨by (with_reducible repeat (first | refine blk_drewN ?_ _ | refine blk_drew ?_ | refine blk_alloc ?_ _)); exact BK263.out⟩, ⟨by (with_reducible repeat (first | refine blk_drewN ?_ _ | refine blk_drew ?_ | refine blk_alloc ?_ _)); exact BK264.out⟩, ⟨by (with_reducible repeat (first | refine blk_drewN ?_ _ | refine blk_drew ?_ | refine blk_alloc ?_ _)); exact BK265.out⟩, ⟨by repeat (first | (with_reducible first | exact HB.out | apply below_alloc | apply pw_below_drewN | apply below_drew1 | refine below_set ?_ GE263.out | refine below_set ?_ GE264.out | refine below_set ?_ GE265.out) | exact HB.out)⟩⟩
                · replace c168 := Bool.eq_false_iff.mpr c168
                  subst c168
                  have H1 : ((consts_Less.f kj132 a1_0 a1_1 a1_2 a1_3 a0_0 a0_1 a0_2 a0_3).bind fun t279 => (if t279 = true then (monikerlaw8_ConstOrder.j2 kj132 false a0_0 a0_1 a0_2 a0_3 a1_0 a1_1 a1_2 a1_3) else (monikerlaw8_ConstOrder.j2 kj132 (!(a0_0 == a1_0) || (!(a0_1 == a1_1) || (!(a0_2 == a1_2) || (!(a0_3.toList == a1_3.toList))))) a0_0 a0_1 a0_2 a0_3 a1_0 a1_1 a1_2 a1_3))) = some r := by rw [if_neg (show ¬ (false = true) by decide)] at H; exact H
                  clear H
                  have H := H1
                  clear H1
                  replace H := Option.bind_eq_some_iff.mp H
                  obtain ⟨t279, A1750, H⟩ := H
                  replace H : (if t279 = true then (monikerlaw8_ConstOrder.j2 kj132 false a0_0 a0_1 a0_2 a0_3 a1_0 a1_1 a1_2 a1_3) else (monikerlaw8_ConstOrder.j2 kj132 (!(a0_0 == a1_0) || (!(a0_1 == a1_1) || (!(a0_2 == a1_2) || (!(a0_3.toList == a1_3.toList))))) a0_0 a0_1 a0_2 a0_3 a1_0 a1_1 a1_2 a1_3)) = some r := H
                  have A175 := Aside0.mk A1750
                  clear A1750
                  by_cases c176 : t279 = true
                  · subst c176
                    have H1 : (monikerlaw8_ConstOrder.j2 kj132 false a0_0 a0_1 a0_2 a0_3 a1_0 a1_1 a1_2 a1_3) = some r := by rw [if_pos rfl] at H; exact H
                    clear H
                    have H := H1
                    clear H1
                    have H' := Aside0.mk H
                    clear H
                    have hnb177 := NB263_264.out
                    have hnc177 := NB264_263.out
                    have hnb178 := NB263_265.out
                    have hnc178 := NB265_263.out
                    have hcz179_0 : wc.cell? ⟨gb263, 0, none⟩ = some (.int .u8 a0_0) := (blk_cell BK263.out 0).trans rfl
                    have hcz179_1 : wc.cell? ⟨gb263, 1, none⟩ = some (.bool a0_1) := (blk_cell BK263.out 1).trans rfl
                    have hcz179_2 : wc.cell? ⟨gb263, 2, none⟩ = some (.int .i64 a0_2) := (blk_cell BK263.out 2).trans rfl
                    have hcz179_3 : wc.cell? ⟨gb263, 3, none⟩ = some (.string a0_3) := (blk_cell BK263.out 3).trans rfl
                    have hfz179_0 := blk_frozen BK263.out 0
                    have hfz179_1 := blk_frozen BK263.out 1
                    have hfz179_2 := blk_frozen BK263.out 2
                    have hfz179_3 := blk_frozen BK263.out 3
                    have hnb180 := NB264_265.out
                    have hnc180 := NB265_264.out
                    have hcz181_0 : wc.cell? ⟨gb264, 0, none⟩ = some (.int .u8 a1_0) := (blk_cell BK264.out 0).trans rfl
                    have hcz181_1 : wc.cell? ⟨gb264, 1, none⟩ = some (.bool a1_1) := (blk_cell BK264.out 1).trans rfl
                    have hcz181_2 : wc.cell? ⟨gb264, 2, none⟩ = some (.int .i64 a1_2) := (blk_cell BK264.out 2).trans rfl
                    have hcz181_3 : wc.cell? ⟨gb264, 3, none⟩ = some (.string a1_3) := (blk_cell BK264.out 3).trans rfl
                    have hfz181_0 := blk_frozen BK264.out 0
                    have hfz181_1 := blk_frozen BK264.out 1
                    have hfz181_2 := blk_frozen BK264.out 2
                    have hfz181_3 := blk_frozen BK264.out 3
                    go_wp2_with (first | ((with_reducible refine gate_callee (f := 12) rfl ?_); refine goesL_ (some 59) rfl rfl Tryd.func12 (by kernel_rfl) rfl #[.agg #[.int .u8 a0_0, .bool a0_1, .int .i64 a0_2, .string a0_3], .agg #[.int .u8 a1_0, .bool a1_1, .int .i64 a1_2, .string a1_3]] rfl (by (try simp only [List.map_toArray, List.map_cons, List.map_nil]); first | done | rfl | (simp only [List.length_drop, List.length_take]; rfl)) ?_; (with_reducible refine (consts_Less.calls kj132 a0_0 a0_1 a0_2 a0_3 a1_0 a1_1 a1_2 a1_3 false _ A167.out).mono ?_); rintro e w182 ⟨rfl, hb⟩; refine ⟨_, rfl, ?_⟩; have n0_ := Aside0.mk (blk_below (g := gb263) (o := .cells #[.int .u8 a0_0, .bool a0_1, .int .i64 a0_2, .string a0_3] 25 (0, 0)) (by (with_reducible repeat (first | refine blk_drewN ?_ _ | refine blk_drew ?_ | refine blk_alloc ?_ _)); exact BK263.out) hb); have n1_ := Aside0.mk (blk_below (g := gb264) (o := .cells #[.int .u8 a1_0, .bool a1_1, .int .i64 a1_2, .string a1_3] 25 (0, 0)) (by (with_reducible repeat (first | refine blk_drewN ?_ _ | refine blk_drew ?_ | refine blk_alloc ?_ _)); exact BK264.out) hb); have n2_ := Aside0.mk (blk_below (g := gb265) (o := .cells #[.int .u8 a2_0, .bool a2_1, .int .i64 a2_2, .string a2_3] 25 (0, 0)) (by (with_reducible repeat (first | refine blk_drewN ?_ _ | refine blk_drew ?_ | refine blk_alloc ?_ _)); exact BK265.out) hb); have n3_ := Aside0.mk (below_step (by repeat (first | (with_reducible first | exact HB.out | apply below_alloc | apply pw_below_drewN | apply below_drew1 | refine below_set ?_ GE263.out | refine below_set ?_ GE264.out | refine below_set ?_ GE265.out) | exact HB.out)) hb); clear BK263; clear BK264; clear BK265; clear HB; have BK263 := n0_; have BK264 := n1_; have BK265 := n2_; have HB := n3_; clear n0_ n1_ n2_ n3_; (try clear hb); (try clear hb2); (try clear hk); (try clear hi); (try have hcy0_0 : w182.cell? ⟨gb263, 0, none⟩ = some (.int .u8 a0_0) := (blk_cell BK263.out 0).trans rfl); (try have hcy0_1 : w182.cell? ⟨gb263, 1, none⟩ = some (.bool a0_1) := (blk_cell BK263.out 1).trans rfl); (try have hcy0_2 : w182.cell? ⟨gb263, 2, none⟩ = some (.int .i64 a0_2) := (blk_cell BK263.out 2).trans rfl); (try have hcy0_3 : w182.cell? ⟨gb263, 3, none⟩ = some (.string a0_3) := (blk_cell BK263.out 3).trans rfl); (try have hcy1_0 : w182.cell? ⟨gb264, 0, none⟩ = some (.int .u8 a1_0) := (blk_cell BK264.out 0).trans rfl); (try have hcy1_1 : w182.cell? ⟨gb264, 1, none⟩ = some (.bool a1_1) := (blk_cell BK264.out 1).trans rfl); (try have hcy1_2 : w182.cell? ⟨gb264, 2, none⟩ = some (.int .i64 a1_2) := (blk_cell BK264.out 2).trans rfl); (try have hcy1_3 : w182.cell? ⟨gb264, 3, none⟩ = some (.string a1_3) := (blk_cell BK264.out 3).trans rfl); (try have hcy2_0 : w182.cell? ⟨gb265, 0, none⟩ = some (.int .u8 a2_0) := (blk_cell BK265.out 0).trans rfl); (try have hcy2_1 : w182.cell? ⟨gb265, 1, none⟩ = some (.bool a2_1) := (blk_cell BK265.out 1).trans rfl); (try have hcy2_2 : w182.cell? ⟨gb265, 2, none⟩ = some (.int .i64 a2_2) := (blk_cell BK265.out 2).trans rfl); (try have hcy2_3 : w182.cell? ⟨gb265, 3, none⟩ = some (.string a2_3) := (blk_cell BK265.out 3).trans rfl); have hcz183_0 : w182.cell? ⟨gb264, 0, none⟩ = some (.int .u8 a1_0) := (blk_cell BK264.out 0).trans rfl; have hcz183_1 : w182.cell? ⟨gb264, 1, none⟩ = some (.bool a1_1) := (blk_cell BK264.out 1).trans rfl; have hcz183_2 : w182.cell? ⟨gb264, 2, none⟩ = some (.int .i64 a1_2) := (blk_cell BK264.out 2).trans rfl; have hcz183_3 : w182.cell? ⟨gb264, 3, none⟩ = some (.string a1_3) := (blk_cell BK264.out 3).trans rfl; have hfz183_0 := blk_frozen BK264.out 0; have hfz183_1 := blk_frozen BK264.out 1; have hfz183_2 := blk_frozen BK264.out 2; have hfz183_3 := blk_frozen BK264.out 3; have hcz184_0 : w182.cell? ⟨gb263, 0, none⟩ = some (.int .u8 a0_0) := (blk_cell BK263.out 0).trans rfl; have hcz184_1 : w182.cell? ⟨gb263, 1, none⟩ = some (.bool a0_1) := (blk_cell BK263.out 1).trans rfl; have hcz184_2 : w182.cell? ⟨gb263, 2, none⟩ = some (.int .i64 a0_2) := (blk_cell BK263.out 2).trans rfl; have hcz184_3 : w182.cell? ⟨gb263, 3, none⟩ = some (.string a0_3) := (blk_cell BK263.out 3).trans rfl; have hfz184_0 := blk_frozen BK263.out 0; have hfz184_1 := blk_frozen BK263.out 1; have hfz184_2 := blk_frozen BK263.out 2; have hfz184_3 := blk_frozen BK263.out 3) | (go_at_call 12; (with_reducible refine (consts_Less.calls kj132 a1_0 a1_1 a1_2 a1_3 a0_0 a0_1 a0_2 a0_3 true _ A175.out).mono ?_); rintro e w185 ⟨rfl, hb⟩; have n0_ := Aside0.mk (blk_below (g := gb263) (o := .cells #[.int .u8 a0_0, .bool a0_1, .int .i64 a0_2, .string a0_3] 25 (0, 0)) (by (with_reducible repeat (first | refine blk_drewN ?_ _ | refine blk_drew ?_ | refine blk_alloc ?_ _)); exact BK263.out) hb); have n1_ := Aside0.mk (blk_below (g := gb264) (o := .cells #[.int .u8 a1_0, .bool a1_1, .int .i64 a1_2, .string a1_3] 25 (0, 0)) (by (with_reducible repeat (first | refine blk_drewN ?_ _ | refine blk_drew ?_ | refine blk_alloc ?_ _)); exact BK264.out) hb); have n2_ := Aside0.mk (blk_below (g := gb265) (o := .cells #[.int .u8 a2_0, .bool a2_1, .int .i64 a2_2, .string a2_3] 25 (0, 0)) (by (with_reducible repeat (first | refine blk_drewN ?_ _ | refine blk_drew ?_ | refine blk_alloc ?_ _)); exact BK265.out) hb); have n3_ := Aside0.mk (below_step (by repeat (first | (with_reducible first | exact HB.out | apply below_alloc | apply pw_below_drewN | apply below_drew1 | refine below_set ?_ GE263.out | refine below_set ?_ GE264.out | refine below_set ?_ GE265.out) | exact HB.out)) hb); clear BK263; clear BK264; clear BK265; clear HB; have BK263 := n0_; have BK264 := n1_; have BK265 := n2_; have HB := n3_; clear n0_ n1_ n2_ n3_; (try clear hb); (try clear hb2); (try clear hk); (try clear hi)))
                    go_meet
                    case rel => exact ⟨_, (false), (by first | rfl | (simp; done) | (simp [*]; done)), H', ⟨by have := HJ3.out; have := HJ132.out; first | omega | exact Nat.le_refl _⟩, ⟨by (with_reducible repeat (first | refine blk_drewN ?_ _ | refine blk_drew ?_ | refine blk_alloc ?_ _)); exact BK263.out⟩, ⟨by (with_reducible repeat (first | refine blk_drewN ?_ _ | refine blk_drew ?_ | refine blk_alloc ?_ _)); exact BK264.out⟩, ⟨by (with_reducible repeat (first | refine blk_drewN ?_ _ | refine blk_drew ?_ | refine blk_alloc ?_ _)); exact BK265.out⟩, ⟨by repeat (first | (with_reducible first | exact HB.out | apply below_alloc | apply pw_below_drewN | apply below_drew1 | refine below_set ?_ GE263.out | refine below_set ?_ GE264.out | refine below_set ?_ GE265.out) | exact HB.out)⟩⟩
                  · replace c176 := Bool.eq_false_iff.mpr c176
                    subst c176
                    have H1 : (monikerlaw8_ConstOrder.j2 kj132 (!(a0_0 == a1_0) || (!(a0_1 == a1_1) || (!(a0_2 == a1_2) || (!(a0_3.toList == a1_3.toList))))) a0_0 a0_1 a0_2 a0_3 a1_0 a1_1 a1_2 a1_3) = some r := by rw [if_neg (show ¬ (false = true) by decide)] at H; exact H
                    clear H
                    have H := H1
                    clear H1
                    have H' := Aside0.mk H
                    clear H
                    have hnb186 := NB263_264.out
                    have hnc186 := NB264_263.out
                    have hnb187 := NB263_265.out
                    have hnc187 := NB265_263.out
                    have hcz188_0 : wc.cell? ⟨gb263, 0, none⟩ = some (.int .u8 a0_0) := (blk_cell BK263.out 0).trans rfl
                    have hcz188_1 : wc.cell? ⟨gb263, 1, none⟩ = some (.bool a0_1) := (blk_cell BK263.out 1).trans rfl
                    have hcz188_2 : wc.cell? ⟨gb263, 2, none⟩ = some (.int .i64 a0_2) := (blk_cell BK263.out 2).trans rfl
                    have hcz188_3 : wc.cell? ⟨gb263, 3, none⟩ = some (.string a0_3) := (blk_cell BK263.out 3).trans rfl
                    have hfz188_0 := blk_frozen BK263.out 0
                    have hfz188_1 := blk_frozen BK263.out 1
                    have hfz188_2 := blk_frozen BK263.out 2
                    have hfz188_3 := blk_frozen BK263.out 3
                    have hnb189 := NB264_265.out
                    have hnc189 := NB265_264.out
                    have hcz190_0 : wc.cell? ⟨gb264, 0, none⟩ = some (.int .u8 a1_0) := (blk_cell BK264.out 0).trans rfl
                    have hcz190_1 : wc.cell? ⟨gb264, 1, none⟩ = some (.bool a1_1) := (blk_cell BK264.out 1).trans rfl
                    have hcz190_2 : wc.cell? ⟨gb264, 2, none⟩ = some (.int .i64 a1_2) := (blk_cell BK264.out 2).trans rfl
                    have hcz190_3 : wc.cell? ⟨gb264, 3, none⟩ = some (.string a1_3) := (blk_cell BK264.out 3).trans rfl
                    have hfz190_0 := blk_frozen BK264.out 0
                    have hfz190_1 := blk_frozen BK264.out 1
                    have hfz190_2 := blk_frozen BK264.out 2
                    have hfz190_3 := blk_frozen BK264.out 3
                    go_wp2_with (first | ((with_reducible refine gate_callee (f := 12) rfl ?_); refine goesL_ (some 59) rfl rfl Tryd.func12 (by kernel_rfl) rfl #[.agg #[.int .u8 a0_0, .bool a0_1, .int .i64 a0_2, .string a0_3], .agg #[.int .u8 a1_0, .bool a1_1, .int .i64 a1_2, .string a1_3]] rfl (by (try simp only [List.map_toArray, List.map_cons, List.map_nil]); first | done | rfl | (simp only [List.length_drop, List.length_take]; rfl)) ?_; (with_reducible refine (consts_Less.calls kj132 a0_0 a0_1 a0_2 a0_3 a1_0 a1_1 a1_2 a1_3 false _ A167.out).mono ?_); rintro e w191 ⟨rfl, hb⟩; refine ⟨_, rfl, ?_⟩; have n0_ := Aside0.mk (blk_below (g := gb263) (o := .cells #[.int .u8 a0_0, .bool a0_1, .int .i64 a0_2, .string a0_3] 25 (0, 0)) (by (with_reducible repeat (first | refine blk_drewN ?_ _ | refine blk_drew ?_ | refine blk_alloc ?_ _)); exact BK263.out) hb); have n1_ := Aside0.mk (blk_below (g := gb264) (o := .cells #[.int .u8 a1_0, .bool a1_1, .int .i64 a1_2, .string a1_3] 25 (0, 0)) (by (with_reducible repeat (first | refine blk_drewN ?_ _ | refine blk_drew ?_ | refine blk_alloc ?_ _)); exact BK264.out) hb); have n2_ := Aside0.mk (blk_below (g := gb265) (o := .cells #[.int .u8 a2_0, .bool a2_1, .int .i64 a2_2, .string a2_3] 25 (0, 0)) (by (with_reducible repeat (first | refine blk_drewN ?_ _ | refine blk_drew ?_ | refine blk_alloc ?_ _)); exact BK265.out) hb); have n3_ := Aside0.mk (below_step (by repeat (first | (with_reducible first | exact HB.out | apply below_alloc | apply pw_below_drewN | apply below_drew1 | refine below_set ?_ GE263.out | refine below_set ?_ GE264.out | refine below_set ?_ GE265.out) | exact HB.out)) hb); clear BK263; clear BK264; clear BK265; clear HB; have BK263 := n0_; have BK264 := n1_; have BK265 := n2_; have HB := n3_; clear n0_ n1_ n2_ n3_; (try clear hb); (try clear hb2); (try clear hk); (try clear hi); (try have hcy0_0 : w191.cell? ⟨gb263, 0, none⟩ = some (.int .u8 a0_0) := (blk_cell BK263.out 0).trans rfl); (try have hcy0_1 : w191.cell? ⟨gb263, 1, none⟩ = some (.bool a0_1) := (blk_cell BK263.out 1).trans rfl); (try have hcy0_2 : w191.cell? ⟨gb263, 2, none⟩ = some (.int .i64 a0_2) := (blk_cell BK263.out 2).trans rfl); (try have hcy0_3 : w191.cell? ⟨gb263, 3, none⟩ = some (.string a0_3) := (blk_cell BK263.out 3).trans rfl); (try have hcy1_0 : w191.cell? ⟨gb264, 0, none⟩ = some (.int .u8 a1_0) := (blk_cell BK264.out 0).trans rfl); (try have hcy1_1 : w191.cell? ⟨gb264, 1, none⟩ = some (.bool a1_1) := (blk_cell BK264.out 1).trans rfl); (try have hcy1_2 : w191.cell? ⟨gb264, 2, none⟩ = some (.int .i64 a1_2) := (blk_cell BK264.out 2).trans rfl); (try have hcy1_3 : w191.cell? ⟨gb264, 3, none⟩ = some (.string a1_3) := (blk_cell BK264.out 3).trans rfl); (try have hcy2_0 : w191.cell? ⟨gb265, 0, none⟩ = some (.int .u8 a2_0) := (blk_cell BK265.out 0).trans rfl); (try have hcy2_1 : w191.cell? ⟨gb265, 1, none⟩ = some (.bool a2_1) := (blk_cell BK265.out 1).trans rfl); (try have hcy2_2 : w191.cell? ⟨gb265, 2, none⟩ = some (.int .i64 a2_2) := (blk_cell BK265.out 2).trans rfl); (try have hcy2_3 : w191.cell? ⟨gb265, 3, none⟩ = some (.string a2_3) := (blk_cell BK265.out 3).trans rfl); have hcz192_0 : w191.cell? ⟨gb264, 0, none⟩ = some (.int .u8 a1_0) := (blk_cell BK264.out 0).trans rfl; have hcz192_1 : w191.cell? ⟨gb264, 1, none⟩ = some (.bool a1_1) := (blk_cell BK264.out 1).trans rfl; have hcz192_2 : w191.cell? ⟨gb264, 2, none⟩ = some (.int .i64 a1_2) := (blk_cell BK264.out 2).trans rfl; have hcz192_3 : w191.cell? ⟨gb264, 3, none⟩ = some (.string a1_3) := (blk_cell BK264.out 3).trans rfl; have hfz192_0 := blk_frozen BK264.out 0; have hfz192_1 := blk_frozen BK264.out 1; have hfz192_2 := blk_frozen BK264.out 2; have hfz192_3 := blk_frozen BK264.out 3; have hcz193_0 : w191.cell? ⟨gb263, 0, none⟩ = some (.int .u8 a0_0) := (blk_cell BK263.out 0).trans rfl; have hcz193_1 : w191.cell? ⟨gb263, 1, none⟩ = some (.bool a0_1) := (blk_cell BK263.out 1).trans rfl; have hcz193_2 : w191.cell? ⟨gb263, 2, none⟩ = some (.int .i64 a0_2) := (blk_cell BK263.out 2).trans rfl; have hcz193_3 : w191.cell? ⟨gb263, 3, none⟩ = some (.string a0_3) := (blk_cell BK263.out 3).trans rfl; have hfz193_0 := blk_frozen BK263.out 0; have hfz193_1 := blk_frozen BK263.out 1; have hfz193_2 := blk_frozen BK263.out 2; have hfz193_3 := blk_frozen BK263.out 3) | (go_at_call 12; (with_reducible refine (consts_Less.calls kj132 a1_0 a1_1 a1_2 a1_3 a0_0 a0_1 a0_2 a0_3 false _ A175.out).mono ?_); rintro e w194 ⟨rfl, hb⟩; have n0_ := Aside0.mk (blk_below (g := gb263) (o := .cells #[.int .u8 a0_0, .bool a0_1, .int .i64 a0_2, .string a0_3] 25 (0, 0)) (by (with_reducible repeat (first | refine blk_drewN ?_ _ | refine blk_drew ?_ | refine blk_alloc ?_ _)); exact BK263.out) hb); have n1_ := Aside0.mk (blk_below (g := gb264) (o := .cells #[.int .u8 a1_0, .bool a1_1, .int .i64 a1_2, .string a1_3] 25 (0, 0)) (by (with_reducible repeat (first | refine blk_drewN ?_ _ | refine blk_drew ?_ | refine blk_alloc ?_ _)); exact BK264.out) hb); have n2_ := Aside0.mk (blk_below (g := gb265) (o := .cells #[.int .u8 a2_0, .bool a2_1, .int .i64 a2_2, .string a2_3] 25 (0, 0)) (by (with_reducible repeat (first | refine blk_drewN ?_ _ | refine blk_drew ?_ | refine blk_alloc ?_ _)); exact BK265.out) hb); have n3_ := Aside0.mk (below_step (by repeat (first | (with_reducible first | exact HB.out | apply below_alloc | apply pw_below_drewN | apply below_drew1 | refine below_set ?_ GE263.out | refine below_set ?_ GE264.out | refine below_set ?_ GE265.out) | exact HB.out)) hb); clear BK263; clear BK264; clear BK265; clear HB; have BK263 := n0_; have BK264 := n1_; have BK265 := n2_; have HB := n3_; clear n0_ n1_ n2_ n3_; (try clear hb); (try clear hb2); (try clear hk); (try clear hi); (try have hcy0_0 : w194.cell? ⟨gb263, 0, none⟩ = some (.int .u8 a0_0) := (blk_cell BK263.out 0).trans rfl); (try have hcy0_1 : w194.cell? ⟨gb263, 1, none⟩ = some (.bool a0_1) := (blk_cell BK263.out 1).trans rfl); (try have hcy0_2 : w194.cell? ⟨gb263, 2, none⟩ = some (.int .i64 a0_2) := (blk_cell BK263.out 2).trans rfl); (try have hcy0_3 : w194.cell? ⟨gb263, 3, none⟩ = some (.string a0_3) := (blk_cell BK263.out 3).trans rfl); (try have hcy1_0 : w194.cell? ⟨gb264, 0, none⟩ = some (.int .u8 a1_0) := (blk_cell BK264.out 0).trans rfl); (try have hcy1_1 : w194.cell? ⟨gb264, 1, none⟩ = some (.bool a1_1) := (blk_cell BK264.out 1).trans rfl); (try have hcy1_2 : w194.cell? ⟨gb264, 2, none⟩ = some (.int .i64 a1_2) := (blk_cell BK264.out 2).trans rfl); (try have hcy1_3 : w194.cell? ⟨gb264, 3, none⟩ = some (.string a1_3) := (blk_cell BK264.out 3).trans rfl); (try have hcy2_0 : w194.cell? ⟨gb265, 0, none⟩ = some (.int .u8 a2_0) := (blk_cell BK265.out 0).trans rfl); (try have hcy2_1 : w194.cell? ⟨gb265, 1, none⟩ = some (.bool a2_1) := (blk_cell BK265.out 1).trans rfl); (try have hcy2_2 : w194.cell? ⟨gb265, 2, none⟩ = some (.int .i64 a2_2) := (blk_cell BK265.out 2).trans rfl); (try have hcy2_3 : w194.cell? ⟨gb265, 3, none⟩ = some (.string a2_3) := (blk_cell BK265.out 3).trans rfl); have hcz195_0 : w194.cell? ⟨gb263, 0, none⟩ = some (.int .u8 a0_0) := (blk_cell BK263.out 0).trans rfl; have hcz195_1 : w194.cell? ⟨gb263, 1, none⟩ = some (.bool a0_1) := (blk_cell BK263.out 1).trans rfl; have hcz195_2 : w194.cell? ⟨gb263, 2, none⟩ = some (.int .i64 a0_2) := (blk_cell BK263.out 2).trans rfl; have hcz195_3 : w194.cell? ⟨gb263, 3, none⟩ = some (.string a0_3) := (blk_cell BK263.out 3).trans rfl; have hfz195_0 := blk_frozen BK263.out 0; have hfz195_1 := blk_frozen BK263.out 1; have hfz195_2 := blk_frozen BK263.out 2; have hfz195_3 := blk_frozen BK263.out 3; have hcz196_0 : w194.cell? ⟨gb264, 0, none⟩ = some (.int .u8 a1_0) := (blk_cell BK264.out 0).trans rfl; have hcz196_1 : w194.cell? ⟨gb264, 1, none⟩ = some (.bool a1_1) := (blk_cell BK264.out 1).trans rfl; have hcz196_2 : w194.cell? ⟨gb264, 2, none⟩ = some (.int .i64 a1_2) := (blk_cell BK264.out 2).trans rfl; have hcz196_3 : w194.cell? ⟨gb264, 3, none⟩ = some (.string a1_3) := (blk_cell BK264.out 3).trans rfl; have hfz196_0 := blk_frozen BK264.out 0; have hfz196_1 := blk_frozen BK264.out 1; have hfz196_2 := blk_frozen BK264.out 2; have hfz196_3 := blk_frozen BK264.out 3))
                    go_meet
                    case rel => exact ⟨_, ((!(a0_0 == a1_0) || (!(a0_1 == a1_1) || (!(a0_2 == a1_2) || (!(a0_3.toList == a1_3.toList)))))), (by first | rfl | (simp; done) | (simp [*]; done)), H', ⟨by have := HJ3.out; have := HJ132.out; first | omega | exact Nat.le_refl _⟩, ⟨by (with_reducible repeat (first | refine blk_drewN ?_ _ | refine blk_drew ?_ | refine blk_alloc ?_ _)); exact BK263.out⟩, ⟨by (with_reducible repeat (first | refine blk_drewN ?_ _ | refine blk_drew ?_ | refine blk_alloc ?_ _)); exact BK264.out⟩, ⟨by (with_reducible repeat (first | refine blk_drewN ?_ _ | refine blk_drew ?_ | refine blk_alloc ?_ _)); exact BK265.out⟩, ⟨by repeat (first | (with_reducible first | exact HB.out | apply below_alloc | apply pw_below_drewN | apply below_drew1 | refine below_set ?_ GE263.out | refine below_set ?_ GE264.out | refine below_set ?_ GE265.out) | exact HB.out)⟩⟩
              case rest =>
                clear HC166
                try clear c1
                try clear p2
                try clear c12
                try clear c15
                try clear c16
                try clear c17
                try clear c18
                try clear c158
                try clear c160
                try clear c161
                try clear c163
                try clear c168
                try clear c169
                try clear c170
                try clear c172
                try clear c176
                try clear c177
                try clear c178
                try clear c180
                try clear c186
                try clear c187
                try clear c189
                try clear hcz12_3
                try clear hcz130_0
                try clear hcz130_1
                try clear hcz130_2
                try clear hcz130_3
                try clear hcz140_0
                try clear hcz140_1
                try clear hcz140_2
                try clear hcz140_3
                try clear hcz143_0
                try clear hcz143_1
                try clear hcz143_2
                try clear hcz143_3
                try clear hcz145_0
                try clear hcz145_1
                try clear hcz145_2
                try clear hcz145_3
                try clear hcz146_0
                try clear hcz146_1
                try clear hcz146_2
                try clear hcz146_3
                try clear hcz149_0
                try clear hcz149_1
                try clear hcz149_2
                try clear hcz149_3
                try clear hcz152_0
                try clear hcz152_1
                try clear hcz152_2
                try clear hcz152_3
                try clear hcz156_0
                try clear hcz156_1
                try clear hcz156_2
                try clear hcz156_3
                try clear hcz162_0
                try clear hcz162_1
                try clear hcz162_2
                try clear hcz162_3
                try clear hcz164_0
                try clear hcz164_1
                try clear hcz164_2
                try clear hcz164_3
                try clear hcz171_0
                try clear hcz171_1
                try clear hcz171_2
                try clear hcz171_3
                try clear hcz173_0
                try clear hcz173_1
                try clear hcz173_2
                try clear hcz173_3
                try clear hcz179_0
                try clear hcz179_1
                try clear hcz179_2
                try clear hcz179_3
                try clear hcz181_0
                try clear hcz181_1
                try clear hcz181_2
                try clear hcz181_3
                try clear hcz183_0
                try clear hcz183_1
                try clear hcz183_2
                try clear hcz183_3
                try clear hcz184_0
                try clear hcz184_1
                try clear hcz184_2
                try clear hcz184_3
                try clear hcz188_0
                try clear hcz188_1
                try clear hcz188_2
                try clear hcz188_3
                try clear hcz190_0
                try clear hcz190_1
                try clear hcz190_2
                try clear hcz190_3
                try clear hcz192_0
                try clear hcz192_1
                try clear hcz192_2
                try clear hcz192_3
                try clear hcz193_0
                try clear hcz193_1
                try clear hcz193_2
                try clear hcz193_3
                try clear hcz195_0
                try clear hcz195_1
                try clear hcz195_2
                try clear hcz195_3
                try clear hcz196_0
                try clear hcz196_1
                try clear hcz196_2
                try clear hcz196_3
                try clear hcz20_0
                try clear hcz20_1
                try clear hcz20_2
                try clear hcz20_3
                try clear hcz22_0
                try clear hcz22_1
                try clear hcz22_2
                try clear hcz22_3
                try clear hcz24_0
                try clear hcz24_1
                try clear hcz24_2
                try clear hcz24_3
                try clear hcz26_0
                try clear hcz26_1
                try clear hcz26_2
                try clear hcz26_3
                try clear hcz27_0
                try clear hcz27_1
                try clear hcz27_2
                try clear hcz27_3
                try clear hcz36_0
                try clear hcz36_1
                try clear hcz36_2
                try clear hcz36_3
                try clear hcz38_0
                try clear hcz38_1
                try clear hcz38_2
                try clear hcz38_3
                try clear hcz40_0
                try clear hcz40_1
                try clear hcz40_2
                try clear hcz40_3
                try clear hcz42_0
                try clear hcz42_1
                try clear hcz42_2
                try clear hcz42_3
                try clear hcz43_0
                try clear hcz43_1
                try clear hcz43_2
                try clear hcz43_3
                try clear hcz45_0
                try clear hcz45_1
                try clear hcz45_2
                try clear hcz45_3
                try clear hcz46_0
                try clear hcz46_1
                try clear hcz46_2
                try clear hcz46_3
                try clear hcz48_0
                try clear hcz48_1
                try clear hcz48_2
                try clear hcz48_3
                try clear hcz49_0
                try clear hcz49_1
                try clear hcz49_2
                try clear hcz49_3
                try clear hcz51_0
                try clear hcz51_1
                try clear hcz51_2
                try clear hcz51_3
                try clear hcz52_0
                try clear hcz52_1
                try clear hcz52_2
                try clear hcz52_3
                try clear hcz56_0
                try clear hcz56_1
                try clear hcz56_2
                try clear hcz56_3
                try clear hcz58_0
                try clear hcz58_1
                try clear hcz58_2
                try clear hcz58_3
                try clear hcz60_0
                try clear hcz60_1
                try clear hcz60_2
                try clear hcz60_3
                try clear hcz62_0
                try clear hcz62_1
                try clear hcz62_2
                try clear hcz62_3
                try clear hcz63_0
                try clear hcz63_1
                try clear hcz63_2
                try clear hcz63_3
                try clear hcz65_0
                try clear hcz65_1
                try clear hcz65_2
                try clear hcz65_3
                try clear hcz66_0
                try clear hcz66_1
                try clear hcz66_2
                try clear hcz66_3
                try clear hcz68_0
                try clear hcz68_1
                try clear hcz68_2
                try clear hcz68_3
                try clear hcz69_0
                try clear hcz69_1
                try clear hcz69_2
                try clear hcz69_3
                try clear hcz73_0
                try clear hcz73_1
                try clear hcz73_2
                try clear hcz73_3
                try clear hcz75_0
                try clear hcz75_1
                try clear hcz75_2
                try clear hcz75_3
                try clear hcz77_0
                try clear hcz77_1
                try clear hcz77_2
                try clear hcz77_3
                try clear hcz79_0
                try clear hcz79_1
                try clear hcz79_2
                try clear hcz79_3
                try clear hcz80_0
                try clear hcz80_1
                try clear hcz80_2
                try clear hcz80_3
                try clear hcz82_0
                try clear hcz82_1
                try clear hcz82_2
                try clear hcz82_3
                try clear hcz83_0
                try clear hcz83_1
                try clear hcz83_2
                try clear hcz83_3
                try clear hcz92_0
                try clear hcz92_1
                try clear hcz92_2
                try clear hcz92_3
                try clear hcz94_0
                try clear hcz94_1
                try clear hcz94_2
                try clear hcz94_3
                try clear hcz96_0
                try clear hcz96_1
                try clear hcz96_2
                try clear hcz96_3
                try clear hcz98_0
                try clear hcz98_1
                try clear hcz98_2
                try clear hcz98_3
                try clear hcz99_0
                try clear hcz99_1
                try clear hcz99_2
                try clear hcz99_3
                try clear hfz101_0
                try clear hfz101_1
                try clear hfz101_2
                try clear hfz101_3
                try clear hfz102_0
                try clear hfz102_1
                try clear hfz102_2
                try clear hfz102_3
                try clear hfz104_0
                try clear hfz104_1
                try clear hfz104_2
                try clear hfz104_3
                try clear hfz105_0
                try clear hfz105_1
                try clear hfz105_2
                try clear hfz105_3
                try clear hfz109_0
                try clear hfz109_1
                try clear hfz109_2
                try clear hfz109_3
                try clear hfz111_0
                try clear hfz111_1
                try clear hfz111_2
                try clear hfz111_3
                try clear hfz113_0
                try clear hfz113_1
                try clear hfz113_2
                try clear hfz113_3
                try clear hfz115_0
                try clear hfz115_1
                try clear hfz115_2
                try clear hfz115_3
                try clear hfz116_0
                try clear hfz116_1
                try clear hfz116_2
                try clear hfz116_3
                try clear hfz118_0
                try clear hfz118_1
                try clear hfz118_2
                try clear hfz118_3
                try clear hfz119_0
                try clear hfz119_1
                try clear hfz119_2
                try clear hfz119_3
                try clear hfz123_0
                try clear hfz123_1
                try clear hfz123_2
                try clear hfz123_3
                try clear hfz125_0
                try clear hfz125_1
                try clear hfz125_2
                try clear hfz125_3
                try clear hfz127_0
                try clear hfz127_1
                try clear hfz127_2
                try clear hfz127_3
                try clear hfz129_0
                try clear hfz129_1
                try clear hfz129_2
                try clear hfz129_3
                try clear hfz12_0
                try clear hfz12_1
                try clear hfz12_2
                try clear hfz12_3
                try clear hfz130_0
                try clear hfz130_1
                try clear hfz130_2
                try clear hfz130_3
                try clear hfz140_0
                try clear hfz140_1
                try clear hfz140_2
                try clear hfz140_3
                try clear hfz143_0
                try clear hfz143_1
                try clear hfz143_2
                try clear hfz143_3
                try clear hfz145_0
                try clear hfz145_1
                try clear hfz145_2
                try clear hfz145_3
                try clear hfz146_0
                try clear hfz146_1
                try clear hfz146_2
                try clear hfz146_3
                try clear hfz149_0
                try clear hfz149_1
                try clear hfz149_2
                try clear hfz149_3
                try clear hfz152_0
                try clear hfz152_1
                try clear hfz152_2
                try clear hfz152_3
                try clear hfz156_0
                try clear hfz156_1
                try clear hfz156_2
                try clear hfz156_3
                try clear hfz162_0
                try clear hfz162_1
                try clear hfz162_2
                try clear hfz162_3
                try clear hfz164_0
                try clear hfz164_1
                try clear hfz164_2
                try clear hfz164_3
                try clear hfz171_0
                try clear hfz171_1
                try clear hfz171_2
                try clear hfz171_3
                try clear hfz173_0
                try clear hfz173_1
                try clear hfz173_2
                try clear hfz173_3
                try clear hfz179_0
                try clear hfz179_1
                try clear hfz179_2
                try clear hfz179_3
                try clear hfz181_0
                try clear hfz181_1
                try clear hfz181_2
                try clear hfz181_3
                try clear hfz183_0
                try clear hfz183_1
                try clear hfz183_2
                try clear hfz183_3
                try clear hfz184_0
                try clear hfz184_1
                try clear hfz184_2
                try clear hfz184_3
                try clear hfz188_0
                try clear hfz188_1
                try clear hfz188_2
                try clear hfz188_3
                try clear hfz190_0
                try clear hfz190_1
                try clear hfz190_2
                try clear hfz190_3
                try clear hfz192_0
                try clear hfz192_1
                try clear hfz192_2
                try clear hfz192_3
                try clear hfz193_0
                try clear hfz193_1
                try clear hfz193_2
                try clear hfz193_3
                try clear hfz195_0
                try clear hfz195_1
                try clear hfz195_2
                try clear hfz195_3
                try clear hfz196_0
                try clear hfz196_1
                try clear hfz196_2
                try clear hfz196_3
                try clear hfz20_0
                try clear hfz20_1
                try clear hfz20_2
                try clear hfz20_3
                try clear hfz22_0
                try clear hfz22_1
                try clear hfz22_2
                try clear hfz22_3
                try clear hfz24_0
                try clear hfz24_1
                try clear hfz24_2
                try clear hfz24_3
                try clear hfz26_0
                try clear hfz26_1
                try clear hfz26_2
                try clear hfz26_3
                try clear hfz27_0
                try clear hfz27_1
                try clear hfz27_2
                try clear hfz27_3
                try clear hfz36_0
                try clear hfz36_1
                try clear hfz36_2
                try clear hfz36_3
                try clear hfz38_0
                try clear hfz38_1
                try clear hfz38_2
                try clear hfz38_3
                try clear hfz40_0
                try clear hfz40_1
                try clear hfz40_2
                try clear hfz40_3
                try clear hfz42_0
                try clear hfz42_1
                try clear hfz42_2
                try clear hfz42_3
                try clear hfz43_0
                try clear hfz43_1
                try clear hfz43_2
                try clear hfz43_3
                try clear hfz45_0
                try clear hfz45_1
                try clear hfz45_2
                try clear hfz45_3
                try clear hfz46_0
                try clear hfz46_1
                try clear hfz46_2
                try clear hfz46_3
                try clear hfz48_0
                try clear hfz48_1
                try clear hfz48_2
                try clear hfz48_3
                try clear hfz49_0
                try clear hfz49_1
                try clear hfz49_2
                try clear hfz49_3
                try clear hfz51_0
                try clear hfz51_1
                try clear hfz51_2
                try clear hfz51_3
                try clear hfz52_0
                try clear hfz52_1
                try clear hfz52_2
                try clear hfz52_3
                try clear hfz56_0
                try clear hfz56_1
                try clear hfz56_2
                try clear hfz56_3
                try clear hfz58_0
                try clear hfz58_1
                try clear hfz58_2
                try clear hfz58_3
                try clear hfz60_0
                try clear hfz60_1
                try clear hfz60_2
                try clear hfz60_3
                try clear hfz62_0
                try clear hfz62_1
                try clear hfz62_2
                try clear hfz62_3
                try clear hfz63_0
                try clear hfz63_1
                try clear hfz63_2
                try clear hfz63_3
                try clear hfz65_0
                try clear hfz65_1
                try clear hfz65_2
                try clear hfz65_3
                try clear hfz66_0
                try clear hfz66_1
                try clear hfz66_2
                try clear hfz66_3
                try clear hfz68_0
                try clear hfz68_1
                try clear hfz68_2
                try clear hfz68_3
                try clear hfz69_0
                try clear hfz69_1
                try clear hfz69_2
                try clear hfz69_3
                try clear hfz73_0
                try clear hfz73_1
                try clear hfz73_2
                try clear hfz73_3
                try clear hfz75_0
                try clear hfz75_1
                try clear hfz75_2
                try clear hfz75_3
                try clear hfz77_0
                try clear hfz77_1
                try clear hfz77_2
                try clear hfz77_3
                try clear hfz79_0
                try clear hfz79_1
                try clear hfz79_2
                try clear hfz79_3
                try clear hfz80_0
                try clear hfz80_1
                try clear hfz80_2
                try clear hfz80_3
                try clear hfz82_0
                try clear hfz82_1
                try clear hfz82_2
                try clear hfz82_3
                try clear hfz83_0
                try clear hfz83_1
                try clear hfz83_2
                try clear hfz83_3
                try clear hfz92_0
                try clear hfz92_1
                try clear hfz92_2
                try clear hfz92_3
                try clear hfz94_0
                try clear hfz94_1
                try clear hfz94_2
                try clear hfz94_3
                try clear hfz96_0
                try clear hfz96_1
                try clear hfz96_2
                try clear hfz96_3
                try clear hfz98_0
                try clear hfz98_1
                try clear hfz98_2
                try clear hfz98_3
                try clear hfz99_0
                try clear hfz99_1
                try clear hfz99_2
                try clear hfz99_3
                try clear p2
                obtain ⟨kq, x71_165, rfl, HA, HJ165, BK263, BK264, BK265, HB⟩ := hcut
                cases kq with
                | zero => exact absurd HA.out (by simp [monikerlaw8_ConstOrder.j2])
                | succ kj165 =>
                  have H := HA.out
                  clear HA
                  simp only [monikerlaw8_ConstOrder.j2] at H
                  by_cases c197 : x71_165 = true
                  · subst c197
                    have H1 : (some false) = some r := by rw [if_pos rfl] at H; exact H
                    clear H
                    have H := H1
                    clear H1
                    obtain rfl := Option.some.inj H
                    go_wp2
                    go_ret
                    exact ⟨by first | rfl | (simp [errW_none, errW_some] <;> rfl) | (simp [*, errW_none, errW_some] <;> rfl), by repeat (first | (with_reducible first | exact HB.out | apply below_alloc | apply pw_below_drewN | apply below_drew1 | refine below_set ?_ GE263.out | refine below_set ?_ GE264.out | refine below_set ?_ GE265.out) | exact HB.out)⟩
                  · replace c197 := Bool.eq_false_iff.mpr c197
                    subst c197
                    have H1 : ((consts_Binary.f kj165 60 a0_0 a0_1 a0_2 a0_3 a1_0 a1_1 a1_2 a1_3).bind fun bt280 => (if a0_0 = 1 then (some (bt280.2.2.2.2 == 81)) else (if bt280.2.2.2.2 = 0 then ((consts_Less.f kj165 a0_0 a0_1 a0_2 a0_3 a1_0 a1_1 a1_2 a1_3).bind fun t286 => (some (bt280.1 == 1 && (bt280.2.1 == t286 && (bt280.2.2.1 == 0 && (bt280.2.2.2.1.toList == ([] : List UInt8))))))) else (some false)))) = some r := by rw [if_neg (show ¬ (false = true) by decide)] at H; exact H
                    clear H
                    have H := H1
                    clear H1
                    replace H := Option.bind_eq_some_iff.mp H
                    obtain ⟨⟨t280, t281, t282, t283, t284⟩, A1980, H⟩ := H
                    replace H : (if a0_0 = 1 then (some (t284 == 81)) else (if t284 = 0 then ((consts_Less.f kj165 a0_0 a0_1 a0_2 a0_3 a1_0 a1_1 a1_2 a1_3).bind fun t286 => (some (t280 == 1 && (t281 == t286 && (t282 == 0 && (t283.toList == ([] : List UInt8))))))) else (some false))) = some r := H
                    have A198 := Aside0.mk A1980
                    clear A1980
                    by_cases c199 : a0_0 = 1
                    · rw [if_pos c199] at H
                      have c199b0 : (a0_0 == 1) = true := beq_iff_eq.mpr c199
                      have c199b1 : (a0_0 != 1) = false := bne_eq_false_iff_eq.mpr c199
                      clear c199
                      obtain rfl := Option.some.inj H
                      have hnb200 := NB263_264.out
                      have hnc200 := NB264_263.out
                      have hnb201 := NB263_265.out
                      have hnc201 := NB265_263.out
                      have hcz202_0 : wc.cell? ⟨gb263, 0, none⟩ = some (.int .u8 a0_0) := (blk_cell BK263.out 0).trans rfl
                      have hcz202_1 : wc.cell? ⟨gb263, 1, none⟩ = some (.bool a0_1) := (blk_cell BK263.out 1).trans rfl
                      have hcz202_2 : wc.cell? ⟨gb263, 2, none⟩ = some (.int .i64 a0_2) := (blk_cell BK263.out 2).trans rfl
                      have hcz202_3 : wc.cell? ⟨gb263, 3, none⟩ = some (.string a0_3) := (blk_cell BK263.out 3).trans rfl
                      have hfz202_0 := blk_frozen BK263.out 0
                      have hfz202_1 := blk_frozen BK263.out 1
                      have hfz202_2 := blk_frozen BK263.out 2
                      have hfz202_3 := blk_frozen BK263.out 3
                      have hnb203 := NB264_265.out
                      have hnc203 := NB265_264.out
                      have hcz204_0 : wc.cell? ⟨gb264, 0, none⟩ = some (.int .u8 a1_0) := (blk_cell BK264.out 0).trans rfl
                      have hcz204_1 : wc.cell? ⟨gb264, 1, none⟩ = some (.bool a1_1) := (blk_cell BK264.out 1).trans rfl
                      have hcz204_2 : wc.cell? ⟨gb264, 2, none⟩ = some (.int .i64 a1_2) := (blk_cell BK264.out 2).trans rfl
                      have hcz204_3 : wc.cell? ⟨gb264, 3, none⟩ = some (.string a1_3) := (blk_cell BK264.out 3).trans rfl
                      have hfz204_0 := blk_frozen BK264.out 0
                      have hfz204_1 := blk_frozen BK264.out 1
                      have hfz204_2 := blk_frozen BK264.out 2
                      have hfz204_3 := blk_frozen BK264.out 3
                      go_wp2_with (first | ((with_reducible refine gate_callee (f := 8) rfl ?_); refine goesL_ (some 75) rfl rfl Tryd.func8 (by kernel_rfl) rfl #[.int .u8 60, .agg #[.int .u8 a0_0, .bool a0_1, .int .i64 a0_2, .string a0_3], .agg #[.int .u8 a1_0, .bool a1_1, .int .i64 a1_2, .string a1_3]] rfl (by (try simp only [List.map_toArray, List.map_cons, List.map_nil]); first | done | rfl | (simp only [List.length_drop, List.length_take]; rfl)) ?_; (with_reducible refine (consts_Binary.calls kj165 60 a0_0 a0_1 a0_2 a0_3 a1_0 a1_1 a1_2 a1_3 t280 t281 t282 t283 t284 _ A198.out (SG.grow HS.out (by repeat (first | (with_reducible first | exact HB.out | apply below_alloc | apply pw_below_drewN | apply below_drew1 | refine below_set ?_ GE263.out | refine below_set ?_ GE264.out | refine below_set ?_ GE265.out) | exact HB.out)))).mono ?_); rintro e w205 ⟨rfl, hb⟩; refine ⟨_, rfl, ?_⟩; have n0_ := Aside0.mk (blk_below (g := gb263) (o := .cells #[.int .u8 a0_0, .bool a0_1, .int .i64 a0_2, .string a0_3] 25 (0, 0)) (by (with_reducible repeat (first | refine blk_drewN ?_ _ | refine blk_drew ?_ | refine blk_alloc ?_ _)); exact BK263.out) hb); have n1_ := Aside0.mk (blk_below (g := gb264) (o := .cells #[.int .u8 a1_0, .bool a1_1, .int .i64 a1_2, .string a1_3] 25 (0, 0)) (by (with_reducible repeat (first | refine blk_drewN ?_ _ | refine blk_drew ?_ | refine blk_alloc ?_ _)); exact BK264.out) hb); have n2_ := Aside0.mk (blk_below (g := gb265) (o := .cells #[.int .u8 a2_0, .bool a2_1, .int .i64 a2_2, .string a2_3] 25 (0, 0)) (by (with_reducible repeat (first | refine blk_drewN ?_ _ | refine blk_drew ?_ | refine blk_alloc ?_ _)); exact BK265.out) hb); have n3_ := Aside0.mk (below_step (by repeat (first | (with_reducible first | exact HB.out | apply below_alloc | apply pw_below_drewN | apply below_drew1 | refine below_set ?_ GE263.out | refine below_set ?_ GE264.out | refine below_set ?_ GE265.out) | exact HB.out)) hb); clear BK263; clear BK264; clear BK265; clear HB; have BK263 := n0_; have BK264 := n1_; have BK265 := n2_; have HB := n3_; clear n0_ n1_ n2_ n3_; (try clear hb); (try clear hb2); (try clear hk); (try clear hi)) | ((with_reducible refine gate_dst (N := 7) rfl ?_); refine box_event ?hg (N := 7) ?hd (cs := #[.int .u8 0, .bool false, .int .i64 0, .string (⟨#[]⟩ : ByteArray)]) (t := 25) ?hr ?_; (case hd => rfl); (case hg => rfl); (case hr => first | (go_simp; done) | (go_simp; rfl)); intro gb285 hg w206 hbox hb; have n0_ := Aside0.mk (blk_below (g := gb263) (o := .cells #[.int .u8 a0_0, .bool a0_1, .int .i64 a0_2, .string a0_3] 25 (0, 0)) (by (with_reducible repeat (first | refine blk_drewN ?_ _ | refine blk_drew ?_ | refine blk_alloc ?_ _)); exact BK263.out) hb); have n1_ := Aside0.mk (blk_below (g := gb264) (o := .cells #[.int .u8 a1_0, .bool a1_1, .int .i64 a1_2, .string a1_3] 25 (0, 0)) (by (with_reducible repeat (first | refine blk_drewN ?_ _ | refine blk_drew ?_ | refine blk_alloc ?_ _)); exact BK264.out) hb); have n2_ := Aside0.mk (blk_below (g := gb265) (o := .cells #[.int .u8 a2_0, .bool a2_1, .int .i64 a2_2, .string a2_3] 25 (0, 0)) (by (with_reducible repeat (first | refine blk_drewN ?_ _ | refine blk_drew ?_ | refine blk_alloc ?_ _)); exact BK265.out) hb); have n3_ := Aside0.mk (below_step (by repeat (first | (with_reducible first | exact HB.out | apply below_alloc | apply pw_below_drewN | apply below_drew1 | refine below_set ?_ GE263.out | refine below_set ?_ GE264.out | refine below_set ?_ GE265.out) | exact HB.out)) hb); have n4_ := Aside0.mk (hbox); have n5_ := Aside0.mk ((by rw [hg]; exact (below_size (by repeat (first | (with_reducible first | exact HB.out | apply below_alloc | apply pw_below_drewN | apply below_drew1 | refine below_set ?_ GE263.out | refine below_set ?_ GE264.out | refine below_set ?_ GE265.out) | exact HB.out))) : w.heap.size ≤ gb285)); have n6_ := Aside0.mk ((by rw [hg]; exact (below_size (by repeat (first | (with_reducible first | exact HB.out | apply below_alloc | apply pw_below_drewN | apply below_drew1 | refine below_set ?_ GE263.out | refine below_set ?_ GE264.out | refine below_set ?_ GE265.out) | exact HB.out))) : w.heap.size ≤ gb285)); have n7_ := Aside0.mk ((by rw [hg]; exact Nat.ne_of_lt (blk_lt (g := gb263) (o := .cells #[.int .u8 a0_0, .bool a0_1, .int .i64 a0_2, .string a0_3] 25 (0, 0)) (by (with_reducible repeat (first | refine blk_drewN ?_ _ | refine blk_drew ?_ | refine blk_alloc ?_ _)); exact BK263.out)) : gb263 ≠ gb285)); have n8_ := Aside0.mk ((by rw [hg]; exact Nat.ne_of_gt (blk_lt (g := gb263) (o := .cells #[.int .u8 a0_0, .bool a0_1, .int .i64 a0_2, .string a0_3] 25 (0, 0)) (by (with_reducible repeat (first | refine blk_drewN ?_ _ | refine blk_drew ?_ | refine blk_alloc ?_ _)); exact BK263.out)) : gb285 ≠ gb263)); have n9_ := Aside0.mk ((by rw [hg]; exact Nat.ne_of_lt (blk_lt (g := gb264) (o := .cells #[.int .u8 a1_0, .bool a1_1, .int .i64 a1_2, .string a1_3] 25 (0, 0)) (by (with_reducible repeat (first | refine blk_drewN ?_ _ | refine blk_drew ?_ | refine blk_alloc ?_ _)); exact BK264.out)) : gb264 ≠ gb285)); have n10_ := Aside0.mk ((by rw [hg]; exact Nat.ne_of_gt (blk_lt (g := gb264) (o := .cells #[.int .u8 a1_0, .bool a1_1, .int .i64 a1_2, .string a1_3] 25 (0, 0)) (by (with_reducible repeat (first | refine blk_drewN ?_ _ | refine blk_drew ?_ | refine blk_alloc ?_ _)); exact BK264.out)) : gb285 ≠ gb264)); have n11_ := Aside0.mk ((by rw [hg]; exact Nat.ne_of_lt (blk_lt (g := gb265) (o := .cells #[.int .u8 a2_0, .bool a2_1, .int .i64 a2_2, .string a2_3] 25 (0, 0)) (by (with_reducible repeat (first | refine blk_drewN ?_ _ | refine blk_drew ?_ | refine blk_alloc ?_ _)); exact BK265.out)) : gb265 ≠ gb285)); have n12_ := Aside0.mk ((by rw [hg]; exact Nat.ne_of_gt (blk_lt (g := gb265) (o := .cells #[.int .u8 a2_0, .bool a2_1, .int .i64 a2_2, .string a2_3] 25 (0, 0)) (by (with_reducible repeat (first | refine blk_drewN ?_ _ | refine blk_drew ?_ | refine blk_alloc ?_ _)); exact BK265.out)) : gb285 ≠ gb265)); clear BK263; clear BK264; clear BK265; clear HB; have BK263 := n0_; have BK264 := n1_; have BK265 := n2_; have HB := n3_; have BK285 := n4_; have GW285 := n5_; have GE285 := n6_; have NB263_285 := n7_; have NB285_263 := n8_; have NB264_285 := n9_; have NB285_264 := n10_; have NB265_285 := n11_; have NB285_265 := n12_; clear n0_ n1_ n2_ n3_ n4_ n5_ n6_ n7_ n8_ n9_ n10_ n11_ n12_; clear hb hbox hg; have hnb207 := NB285_263.out; have hnc207 := NB263_285.out; have hnb208 := NB285_264.out; have hnc208 := NB264_285.out; have hnb209 := NB285_265.out; have hnc209 := NB265_285.out; have hcz210_0 : w206.cell? ⟨gb285, 0, none⟩ = some (.int .u8 0) := (blk_cell BK285.out 0).trans rfl; have hcz210_1 : w206.cell? ⟨gb285, 1, none⟩ = some (.bool false) := (blk_cell BK285.out 1).trans rfl; have hcz210_2 : w206.cell? ⟨gb285, 2, none⟩ = some (.int .i64 0) := (blk_cell BK285.out 2).trans rfl; have hcz210_3 : w206.cell? ⟨gb285, 3, none⟩ = some (.string (⟨#[]⟩ : ByteArray)) := (blk_cell BK285.out 3).trans rfl; have hfz210_0 := blk_frozen BK285.out 0; have hfz210_1 := blk_frozen BK285.out 1; have hfz210_2 := blk_frozen BK285.out 2; have hfz210_3 := blk_frozen BK285.out 3; have hcz211_0 : w206.cell? ⟨gb263, 0, none⟩ = some (.int .u8 a0_0) := (blk_cell BK263.out 0).trans rfl; have hcz211_1 : w206.cell? ⟨gb263, 1, none⟩ = some (.bool a0_1) := (blk_cell BK263.out 1).trans rfl; have hcz211_2 : w206.cell? ⟨gb263, 2, none⟩ = some (.int .i64 a0_2) := (blk_cell BK263.out 2).trans rfl; have hcz211_3 : w206.cell? ⟨gb263, 3, none⟩ = some (.string a0_3) := (blk_cell BK263.out 3).trans rfl; have hfz211_0 := blk_frozen BK263.out 0; have hfz211_1 := blk_frozen BK263.out 1; have hfz211_2 := blk_frozen BK263.out 2; have hfz211_3 := blk_frozen BK263.out 3))
                      go_ret
                      exact ⟨by first | rfl | (simp [errW_none, errW_some] <;> rfl) | (simp [*, errW_none, errW_some] <;> rfl), by repeat (first | (with_reducible first | exact HB.out | apply below_alloc | apply pw_below_drewN | apply below_drew1 | refine below_set ?_ GE263.out | refine below_set ?_ GE264.out | refine below_set ?_ GE265.out | refine below_set ?_ GE285.out) | exact HB.out)⟩
                    · rw [if_neg c199] at H
                      have c199b0 : (a0_0 == 1) = false := beq_eq_false_iff_ne.mpr c199
                      have c199b1 : (a0_0 != 1) = true := bne_iff_ne.mpr c199
                      by_cases c212 : t284 = 0
                      · rw [if_pos c212] at H
                        have c212b0 : (t284 == 0) = true := beq_iff_eq.mpr c212
                        have c212b1 : (t284 != 0) = false := bne_eq_false_iff_eq.mpr c212
                        clear c212
                        replace H := Option.bind_eq_some_iff.mp H
                        obtain ⟨t286, A2130, H⟩ := H
                        replace H : (some (t280 == 1 && (t281 == t286 && (t282 == 0 && (t283.toList == ([] : List UInt8)))))) = some r := H
                        have A213 := Aside0.mk A2130
                        clear A2130
                        obtain rfl := Option.some.inj H
                        have hnb214 := NB263_264.out
                        have hnc214 := NB264_263.out
                        have hnb215 := NB263_265.out
                        have hnc215 := NB265_263.out
                        have hcz216_0 : wc.cell? ⟨gb263, 0, none⟩ = some (.int .u8 a0_0) := (blk_cell BK263.out 0).trans rfl
                        have hcz216_1 : wc.cell? ⟨gb263, 1, none⟩ = some (.bool a0_1) := (blk_cell BK263.out 1).trans rfl
                        have hcz216_2 : wc.cell? ⟨gb263, 2, none⟩ = some (.int .i64 a0_2) := (blk_cell BK263.out 2).trans rfl
                        have hcz216_3 : wc.cell? ⟨gb263, 3, none⟩ = some (.string a0_3) := (blk_cell BK263.out 3).trans rfl
                        have hfz216_0 := blk_frozen BK263.out 0
                        have hfz216_1 := blk_frozen BK263.out 1
                        have hfz216_2 := blk_frozen BK263.out 2
                        have hfz216_3 := blk_frozen BK263.out 3
                        have hnb217 := NB264_265.out
                        have hnc217 := NB265_264.out
                        have hcz218_0 : wc.cell? ⟨gb264, 0, none⟩ = some (.int .u8 a1_0) := (blk_cell BK264.out 0).trans rfl
                        have hcz218_1 : wc.cell? ⟨gb264, 1, none⟩ = some (.bool a1_1) := (blk_cell BK264.out 1).trans rfl
                        have hcz218_2 : wc.cell? ⟨gb264, 2, none⟩ = some (.int .i64 a1_2) := (blk_cell BK264.out 2).trans rfl
                        have hcz218_3 : wc.cell? ⟨gb264, 3, none⟩ = some (.string a1_3) := (blk_cell BK264.out 3).trans rfl
                        have hfz218_0 := blk_frozen BK264.out 0
                        have hfz218_1 := blk_frozen BK264.out 1
                        have hfz218_2 := blk_frozen BK264.out 2
                        have hfz218_3 := blk_frozen BK264.out 3
                        try go_wp2_with (first | ((with_reducible refine gate_callee (f := 8) rfl ?_); refine goesL_ (some 75) rfl rfl Tryd.func8 (by kernel_rfl) rfl #[.int .u8 60, .agg #[.int .u8 a0_0, .bool a0_1, .int .i64 a0_2, .string a0_3], .agg #[.int .u8 a1_0, .bool a1_1, .int .i64 a1_2, .string a1_3]] rfl (by (try simp only [List.map_toArray, List.map_cons, List.map_nil]); first | done | rfl | (simp only [List.length_drop, List.length_take]; rfl)) ?_; (with_reducible refine (consts_Binary.calls kj165 60 a0_0 a0_1 a0_2 a0_3 a1_0 a1_1 a1_2 a1_3 t280 t281 t282 t283 t284 _ A198.out (SG.grow HS.out (by repeat (first | (with_reducible first | exact HB.out | apply below_alloc | apply pw_below_drewN | apply below_drew1 | refine below_set ?_ GE263.out | refine below_set ?_ GE264.out | refine below_set ?_ GE265.out) | exact HB.out)))).mono ?_); rintro e w219 ⟨rfl, hb⟩; refine ⟨_, rfl, ?_⟩; have n0_ := Aside0.mk (blk_below (g := gb263) (o := .cells #[.int .u8 a0_0, .bool a0_1, .int .i64 a0_2, .string a0_3] 25 (0, 0)) (by (with_reducible repeat (first | refine blk_drewN ?_ _ | refine blk_drew ?_ | refine blk_alloc ?_ _)); exact BK263.out) hb); have n1_ := Aside0.mk (blk_below (g := gb264) (o := .cells #[.int .u8 a1_0, .bool a1_1, .int .i64 a1_2, .string a1_3] 25 (0, 0)) (by (with_reducible repeat (first | refine blk_drewN ?_ _ | refine blk_drew ?_ | refine blk_alloc ?_ _)); exact BK264.out) hb); have n2_ := Aside0.mk (blk_below (g := gb265) (o := .cells #[.int .u8 a2_0, .bool a2_1, .int .i64 a2_2, .string a2_3] 25 (0, 0)) (by (with_reducible repeat (first | refine blk_drewN ?_ _ | refine blk_drew ?_ | refine blk_alloc ?_ _)); exact BK265.out) hb); have n3_ := Aside0.mk (below_step (by repeat (first | (with_reducible first | exact HB.out | apply below_alloc | apply pw_below_drewN | apply below_drew1 | refine below_set ?_ GE263.out | refine below_set ?_ GE264.out | refine below_set ?_ GE265.out) | exact HB.out)) hb); clear BK263; clear BK264; clear BK265; clear HB; have BK263 := n0_; have BK264 := n1_; have BK265 := n2_; have HB := n3_; clear n0_ n1_ n2_ n3_; (try clear hb); (try clear hb2); (try clear hk); (try clear hi)) | ((with_reducible refine gate_dst (N := 7) rfl ?_); refine box_event ?hg (N := 7) ?hd (cs := #[.int .u8 0, .bool false, .int .i64 0, .string (⟨#[]⟩ : ByteArray)]) (t := 25) ?hr ?_; (case hd => rfl); (case hg => rfl); (case hr => first | (go_simp; done) | (go_simp; rfl)); intro gb285 hg w220 hbox hb; have n0_ := Aside0.mk (blk_below (g := gb263) (o := .cells #[.int .u8 a0_0, .bool a0_1, .int .i64 a0_2, .string a0_3] 25 (0, 0)) (by (with_reducible repeat (first | refine blk_drewN ?_ _ | refine blk_drew ?_ | refine blk_alloc ?_ _)); exact BK263.out) hb); have n1_ := Aside0.mk (blk_below (g := gb264) (o := .cells #[.int .u8 a1_0, .bool a1_1, .int .i64 a1_2, .string a1_3] 25 (0, 0)) (by (with_reducible repeat (first | refine blk_drewN ?_ _ | refine blk_drew ?_ | refine blk_alloc ?_ _)); exact BK264.out) hb); have n2_ := Aside0.mk (blk_below (g := gb265) (o := .cells #[.int .u8 a2_0, .bool a2_1, .int .i64 a2_2, .string a2_3] 25 (0, 0)) (by (with_reducible repeat (first | refine blk_drewN ?_ _ | refine blk_drew ?_ | refine blk_alloc ?_ _)); exact BK265.out) hb); have n3_ := Aside0.mk (below_step (by repeat (first | (with_reducible first | exact HB.out | apply below_alloc | apply pw_below_drewN | apply below_drew1 | refine below_set ?_ GE263.out | refine below_set ?_ GE264.out | refine below_set ?_ GE265.out) | exact HB.out)) hb); have n4_ := Aside0.mk (hbox); have n5_ := Aside0.mk ((by rw [hg]; exact (below_size (by repeat (first | (with_reducible first | exact HB.out | apply below_alloc | apply pw_below_drewN | apply below_drew1 | refine below_set ?_ GE263.out | refine below_set ?_ GE264.out | refine below_set ?_ GE265.out) | exact HB.out))) : w.heap.size ≤ gb285)); have n6_ := Aside0.mk ((by rw [hg]; exact (below_size (by repeat (first | (with_reducible first | exact HB.out | apply below_alloc | apply pw_below_drewN | apply below_drew1 | refine below_set ?_ GE263.out | refine below_set ?_ GE264.out | refine below_set ?_ GE265.out) | exact HB.out))) : w.heap.size ≤ gb285)); have n7_ := Aside0.mk ((by rw [hg]; exact Nat.ne_of_lt (blk_lt (g := gb263) (o := .cells #[.int .u8 a0_0, .bool a0_1, .int .i64 a0_2, .string a0_3] 25 (0, 0)) (by (with_reducible repeat (first | refine blk_drewN ?_ _ | refine blk_drew ?_ | refine blk_alloc ?_ _)); exact BK263.out)) : gb263 ≠ gb285)); have n8_ := Aside0.mk ((by rw [hg]; exact Nat.ne_of_gt (blk_lt (g := gb263) (o := .cells #[.int .u8 a0_0, .bool a0_1, .int .i64 a0_2, .string a0_3] 25 (0, 0)) (by (with_reducible repeat (first | refine blk_drewN ?_ _ | refine blk_drew ?_ | refine blk_alloc ?_ _)); exact BK263.out)) : gb285 ≠ gb263)); have n9_ := Aside0.mk ((by rw [hg]; exact Nat.ne_of_lt (blk_lt (g := gb264) (o := .cells #[.int .u8 a1_0, .bool a1_1, .int .i64 a1_2, .string a1_3] 25 (0, 0)) (by (with_reducible repeat (first | refine blk_drewN ?_ _ | refine blk_drew ?_ | refine blk_alloc ?_ _)); exact BK264.out)) : gb264 ≠ gb285)); have n10_ := Aside0.mk ((by rw [hg]; exact Nat.ne_of_gt (blk_lt (g := gb264) (o := .cells #[.int .u8 a1_0, .bool a1_1, .int .i64 a1_2, .string a1_3] 25 (0, 0)) (by (with_reducible repeat (first | refine blk_drewN ?_ _ | refine blk_drew ?_ | refine blk_alloc ?_ _)); exact BK264.out)) : gb285 ≠ gb264)); have n11_ := Aside0.mk ((by rw [hg]; exact Nat.ne_of_lt (blk_lt (g := gb265) (o := .cells #[.int .u8 a2_0, .bool a2_1, .int .i64 a2_2, .string a2_3] 25 (0, 0)) (by (with_reducible repeat (first | refine blk_drewN ?_ _ | refine blk_drew ?_ | refine blk_alloc ?_ _)); exact BK265.out)) : gb265 ≠ gb285)); have n12_ := Aside0.mk ((by rw [hg]; exact Nat.ne_of_gt (blk_lt (g := gb265) (o := .cells #[.int .u8 a2_0, .bool a2_1, .int .i64 a2_2, .string a2_3] 25 (0, 0)) (by (with_reducible repeat (first | refine blk_drewN ?_ _ | refine blk_drew ?_ | refine blk_alloc ?_ _)); exact BK265.out)) : gb285 ≠ gb265)); clear BK263; clear BK264; clear BK265; clear HB; have BK263 := n0_; have BK264 := n1_; have BK265 := n2_; have HB := n3_; have BK285 := n4_; have GW285 := n5_; have GE285 := n6_; have NB263_285 := n7_; have NB285_263 := n8_; have NB264_285 := n9_; have NB285_264 := n10_; have NB265_285 := n11_; have NB285_265 := n12_; clear n0_ n1_ n2_ n3_ n4_ n5_ n6_ n7_ n8_ n9_ n10_ n11_ n12_; clear hb hbox hg; have hnb221 := NB285_263.out; have hnc221 := NB263_285.out; have hnb222 := NB285_264.out; have hnc222 := NB264_285.out; have hnb223 := NB285_265.out; have hnc223 := NB265_285.out; have hcz224_0 : w220.cell? ⟨gb285, 0, none⟩ = some (.int .u8 0) := (blk_cell BK285.out 0).trans rfl; have hcz224_1 : w220.cell? ⟨gb285, 1, none⟩ = some (.bool false) := (blk_cell BK285.out 1).trans rfl; have hcz224_2 : w220.cell? ⟨gb285, 2, none⟩ = some (.int .i64 0) := (blk_cell BK285.out 2).trans rfl; have hcz224_3 : w220.cell? ⟨gb285, 3, none⟩ = some (.string (⟨#[]⟩ : ByteArray)) := (blk_cell BK285.out 3).trans rfl; have hfz224_0 := blk_frozen BK285.out 0; have hfz224_1 := blk_frozen BK285.out 1; have hfz224_2 := blk_frozen BK285.out 2; have hfz224_3 := blk_frozen BK285.out 3; have hcz225_0 : w220.cell? ⟨gb263, 0, none⟩ = some (.int .u8 a0_0) := (blk_cell BK263.out 0).trans rfl; have hcz225_1 : w220.cell? ⟨gb263, 1, none⟩ = some (.bool a0_1) := (blk_cell BK263.out 1).trans rfl; have hcz225_2 : w220.cell? ⟨gb263, 2, none⟩ = some (.int .i64 a0_2) := (blk_cell BK263.out 2).trans rfl; have hcz225_3 : w220.cell? ⟨gb263, 3, none⟩ = some (.string a0_3) := (blk_cell BK263.out 3).trans rfl; have hfz225_0 := blk_frozen BK263.out 0; have hfz225_1 := blk_frozen BK263.out 1; have hfz225_2 := blk_frozen BK263.out 2; have hfz225_3 := blk_frozen BK263.out 3))
                        have n0_ : Aside0 (((((w220.setCell ⟨gb285, 0, none⟩ (.int .u8 t280)).setCell ⟨gb285, 1, none⟩ (.bool t281)).setCell ⟨gb285, 2, none⟩ (.int .i64 t282)).setCell ⟨gb285, 3, none⟩ (.string t283)).heap[gb263]? = some (.cells #[.int .u8 a0_0, .bool a0_1, .int .i64 a0_2, .string a0_3] 25 (0, 0))) := ⟨by (with_reducible repeat (first | refine blk_drewN ?_ _ | refine blk_drew ?_ | refine blk_alloc ?_ _)); refine blk_far ?_ NB263_285.out _; (with_reducible repeat (first | refine blk_drewN ?_ _ | refine blk_drew ?_ | refine blk_alloc ?_ _)); refine blk_far ?_ NB263_285.out _; (with_reducible repeat (first | refine blk_drewN ?_ _ | refine blk_drew ?_ | refine blk_alloc ?_ _)); refine blk_far ?_ NB263_285.out _; (with_reducible repeat (first | refine blk_drewN ?_ _ | refine blk_drew ?_ | refine blk_alloc ?_ _)); refine blk_far ?_ NB263_285.out _; (with_reducible repeat (first | refine blk_drewN ?_ _ | refine blk_drew ?_ | refine blk_alloc ?_ _)); exact BK263.out⟩
                        have n1_ : Aside0 (((((w220.setCell ⟨gb285, 0, none⟩ (.int .u8 t280)).setCell ⟨gb285, 1, none⟩ (.bool t281)).setCell ⟨gb285, 2, none⟩ (.int .i64 t282)).setCell ⟨gb285, 3, none⟩ (.string t283)).heap[gb264]? = some (.cells #[.int .u8 a1_0, .bool a1_1, .int .i64 a1_2, .string a1_3] 25 (0, 0))) := ⟨by (with_reducible repeat (first | refine blk_drewN ?_ _ | refine blk_drew ?_ | refine blk_alloc ?_ _)); refine blk_far ?_ NB264_285.out _; (with_reducible repeat (first | refine blk_drewN ?_ _ | refine blk_drew ?_ | refine blk_alloc ?_ _)); refine blk_far ?_ NB264_285.out _; (with_reducible repeat (first | refine blk_drewN ?_ _ | refine blk_drew ?_ | refine blk_alloc ?_ _)); refine blk_far ?_ NB264_285.out _; (with_reducible repeat (first | refine blk_drewN ?_ _ | refine blk_drew ?_ | refine blk_alloc ?_ _)); refine blk_far ?_ NB264_285.out _; (with_reducible repeat (first | refine blk_drewN ?_ _ | refine blk_drew ?_ | refine blk_alloc ?_ _)); exact BK264.out⟩
                        have n2_ : Aside0 (((((w220.setCell ⟨gb285, 0, none⟩ (.int .u8 t280)).setCell ⟨gb285, 1, none⟩ (.bool t281)).setCell ⟨gb285, 2, none⟩ (.int .i64 t282)).setCell ⟨gb285, 3, none⟩ (.string t283)).heap[gb265]? = some (.cells #[.int .u8 a2_0, .bool a2_1, .int .i64 a2_2, .string a2_3] 25 (0, 0))) := ⟨by (with_reducible repeat (first | refine blk_drewN ?_ _ | refine blk_drew ?_ | refine blk_alloc ?_ _)); refine blk_far ?_ NB265_285.out _; (with_reducible repeat (first | refine blk_drewN ?_ _ | refine blk_drew ?_ | refine blk_alloc ?_ _)); refine blk_far ?_ NB265_285.out _; (with_reducible repeat (first | refine blk_drewN ?_ _ | refine blk_drew ?_ | refine blk_alloc ?_ _)); refine blk_far ?_ NB265_285.out _; (with_reducible repeat (first | refine blk_drewN ?_ _ | refine blk_drew ?_ | refine blk_alloc ?_ _)); refine blk_far ?_ NB265_285.out _; (with_reducible repeat (first | refine blk_drewN ?_ _ | refine blk_drew ?_ | refine blk_alloc ?_ _)); exact BK265.out⟩
                        have n3_ : Aside0 (((((w220.setCell ⟨gb285, 0, none⟩ (.int .u8 t280)).setCell ⟨gb285, 1, none⟩ (.bool t281)).setCell ⟨gb285, 2, none⟩ (.int .i64 t282)).setCell ⟨gb285, 3, none⟩ (.string t283)).heap[gb285]? = some (.cells #[.int .u8 t280, .bool t281, .int .i64 t282, .string t283] 25 (0, 0))) := ⟨by (with_reducible repeat (first | refine blk_drewN ?_ _ | refine blk_drew ?_ | refine blk_alloc ?_ _)); refine blk_put (cs := #[.int .u8 t280, .bool t281, .int .i64 t282, .string (⟨#[]⟩ : ByteArray)]) ?_ 3 _ rfl; (with_reducible repeat (first | refine blk_drewN ?_ _ | refine blk_drew ?_ | refine blk_alloc ?_ _)); refine blk_put (cs := #[.int .u8 t280, .bool t281, .int .i64 0, .string (⟨#[]⟩ : ByteArray)]) ?_ 2 _ rfl; (with_reducible repeat (first | refine blk_drewN ?_ _ | refine blk_drew ?_ | refine blk_alloc ?_ _)); refine blk_put (cs := #[.int .u8 t280, .bool false, .int .i64 0, .string (⟨#[]⟩ : ByteArray)]) ?_ 1 _ rfl; (with_reducible repeat (first | refine blk_drewN ?_ _ | refine blk_drew ?_ | refine blk_alloc ?_ _)); refine blk_put (cs := #[.int .u8 0, .bool false, .int .i64 0, .string (⟨#[]⟩ : ByteArray)]) ?_ 0 _ rfl; (with_reducible repeat (first | refine blk_drewN ?_ _ | refine blk_drew ?_ | refine blk_alloc ?_ _)); exact BK285.out⟩
                        have n4_ : Aside0 (Below w.heap.size w ((((w220.setCell ⟨gb285, 0, none⟩ (.int .u8 t280)).setCell ⟨gb285, 1, none⟩ (.bool t281)).setCell ⟨gb285, 2, none⟩ (.int .i64 t282)).setCell ⟨gb285, 3, none⟩ (.string t283))) := ⟨by repeat (first | (with_reducible first | exact HB.out | apply below_alloc | apply pw_below_drewN | apply below_drew1 | refine below_set ?_ GE263.out | refine below_set ?_ GE264.out | refine below_set ?_ GE265.out | refine below_set ?_ GE285.out) | exact HB.out)⟩
                        (try clear BK263)
                        (try clear BK264)
                        (try clear BK265)
                        (try clear BK285)
                        (try clear HB)
                        generalize ((((w220.setCell ⟨gb285, 0, none⟩ (.int .u8 t280)).setCell ⟨gb285, 1, none⟩ (.bool t281)).setCell ⟨gb285, 2, none⟩ (.int .i64 t282)).setCell ⟨gb285, 3, none⟩ (.string t283)) = w226 at n0_ n1_ n2_ n3_ n4_ ⊢
                        have BK263 := n0_
                        have BK264 := n1_
                        have BK265 := n2_
                        have BK285 := n3_
                        have HB := n4_
                        clear n0_ n1_ n2_ n3_ n4_
                        have n0_ := Aside0.mk (blk_drew BK263.out)
                        have n1_ := Aside0.mk (blk_drew BK264.out)
                        have n2_ := Aside0.mk (blk_drew BK265.out)
                        have n3_ := Aside0.mk (blk_drew BK285.out)
                        have n4_ := Aside0.mk (below_drew1 HB.out)
                        clear BK263
                        clear BK264
                        clear BK265
                        clear BK285
                        clear HB
                        have BK263 := n0_
                        have BK264 := n1_
                        have BK265 := n2_
                        have BK285 := n3_
                        have HB := n4_
                        clear n0_ n1_ n2_ n3_ n4_
                        refine start_ (n := 11) (S := fun w' => w'.cell? ⟨gb285, 0, none⟩ = some (.int .u8 t280) ∧ w'.cell? ⟨gb285, 1, none⟩ = some (.bool t281) ∧ w'.cell? ⟨gb285, 2, none⟩ = some (.int .i64 t282) ∧ w'.cell? ⟨gb285, 3, none⟩ = some (.string t283) ∧ w'.cell? ⟨gb263, 0, none⟩ = some (.int .u8 a0_0) ∧ w'.cell? ⟨gb263, 1, none⟩ = some (.bool a0_1) ∧ w'.cell? ⟨gb263, 2, none⟩ = some (.int .i64 a0_2) ∧ w'.cell? ⟨gb263, 3, none⟩ = some (.string a0_3) ∧ w'.cell? ⟨gb264, 0, none⟩ = some (.int .u8 a1_0) ∧ w'.cell? ⟨gb264, 1, none⟩ = some (.bool a1_1) ∧ w'.cell? ⟨gb264, 2, none⟩ = some (.int .i64 a1_2) ∧ w'.cell? ⟨gb264, 3, none⟩ = some (.string a1_3)) (ds := []) #[false, false, false, false, false, false, false, false, false, false, false] (by kernel_rfl) rfl rfl ⟨(blk_cell BK285.out 0).trans rfl, (blk_cell BK285.out 1).trans rfl, (blk_cell BK285.out 2).trans rfl, (blk_cell BK285.out 3).trans rfl, (blk_cell BK263.out 0).trans rfl, (blk_cell BK263.out 1).trans rfl, (blk_cell BK263.out 2).trans rfl, (blk_cell BK263.out 3).trans rfl, (blk_cell BK264.out 0).trans rfl, (blk_cell BK264.out 1).trans rfl, (blk_cell BK264.out 2).trans rfl, (blk_cell BK264.out 3).trans rfl⟩ (fun hHeld => ?_); refine with_tabW monikerlaw8_ConstOrder.tab10 monikerlaw8_ConstOrder.bits10 (fun HT_ HW_ => ?_)
                        generalize w226.drew = w227 at BK263 BK264 BK265 BK285 HB hHeld ⊢
                        refine pure_ (i := 0) (N := some 83) (v := ?_) (a' := ?_) #[true, false, false, false, false, false, false, false, false, false, false] rfl rfl (any_of HT_.out (by kernel_rfl)) (fun _ _ _ h => h) (Or.inl ⟨by rfl, ?_⟩) ?_ ?_
                        rotate_left
                        · intro w'
                          go_simp
                          with_reducible rfl
                        rotate_left
                        · simp only [Act.put, List.setIfInBounds_toArray, List.set_cons_zero, List.set_cons_succ, i64_w, i32_w]
                          rfl
                        refine pure_ (i := 1) (N := some 84) (v := ?_) (a' := ?_) #[true, true, false, false, false, false, false, false, false, false, false] rfl rfl (any_of HT_.out (by kernel_rfl)) (fun _ _ _ h => h) (Or.inl ⟨by rfl, ?_⟩) ?_ ?_
                        rotate_left
                        · intro w'
                          go_simp
                          with_reducible rfl
                        rotate_left
                        · simp only [Act.put, List.setIfInBounds_toArray, List.set_cons_zero, List.set_cons_succ, i64_w, i32_w]
                          rfl
                        refine pure_ (i := 2) (N := some 85) (v := ?_) (a' := ?_) #[true, true, true, false, false, false, false, false, false, false, false] rfl rfl (any_of HT_.out (by kernel_rfl)) (fun _ _ _ h => h) (Or.inl ⟨by rfl, ?_⟩) ?_ ?_
                        rotate_left
                        · intro w'
                          go_simp
                          with_reducible rfl
                        rotate_left
                        · simp only [Act.put, List.setIfInBounds_toArray, List.set_cons_zero, List.set_cons_succ, i64_w, i32_w]
                          rfl
                        refine take_ (i := 3) (N := some 86) (v := ?_) (a' := ?_) #[true, true, true, true, false, false, false, false, false, false, false] rfl rfl (take_ofW HT_.out HW_.out (by kernel_rfl)) (fun _ _ _ h => h) (Or.inl ⟨by rfl, ?_⟩) hHeld ?_ ?_
                        rotate_left
                        · rintro w' ⟨s0, s1, s2, s3, s4, s5, s6, s7, s8, s9, s10, s11⟩
                          go_simp
                          with_reducible rfl
                        rotate_left
                        · simp only [Act.put, List.setIfInBounds_toArray, List.set_cons_zero, List.set_cons_succ, i64_w, i32_w]
                          rfl
                        refine take_ (i := 4) (N := some 87) (v := ?_) (a' := ?_) #[true, true, true, true, true, false, false, false, false, false, false] rfl rfl (take_ofW HT_.out HW_.out (by kernel_rfl)) (fun _ _ _ h => h) (Or.inl ⟨by rfl, ?_⟩) hHeld ?_ ?_
                        rotate_left
                        · rintro w' ⟨s0, s1, s2, s3, s4, s5, s6, s7, s8, s9, s10, s11⟩
                          go_simp
                          with_reducible rfl
                        rotate_left
                        · simp only [Act.put, List.setIfInBounds_toArray, List.set_cons_zero, List.set_cons_succ, i64_w, i32_w]
                          rfl
                        refine take_ (i := 5) (N := some 88) (v := ?_) (a' := ?_) #[true, true, true, true, true, true, false, false, false, false, false] rfl rfl (take_ofW HT_.out HW_.out (by kernel_rfl)) (fun _ _ _ h => h) (Or.inl ⟨by rfl, ?_⟩) hHeld ?_ ?_
                        rotate_left
                        · rintro w' ⟨s0, s1, s2, s3, s4, s5, s6, s7, s8, s9, s10, s11⟩
                          go_simp
                          with_reducible rfl
                        rotate_left
                        · simp only [Act.put, List.setIfInBounds_toArray, List.set_cons_zero, List.set_cons_succ, i64_w, i32_w]
                          rfl
                        refine one_ (i := 6) (N := some 89) #[true, true, true, true, true, true, true, false, false, false, false] rfl rfl (one_of HT_.out (by kernel_rfl)) (by decide) (fun K hK => ?_)
                        refine goes_ Tryd.func12 (by kernel_rfl) rfl #[.agg #[.int .u8 a0_0, .bool a0_1, .int .i64 a0_2, .string a0_3], .agg #[.int .u8 a1_0, .bool a1_1, .int .i64 a1_2, .string a1_3]] (by rfl) rfl rfl (by (try simp only [List.map_toArray, List.map_cons, List.map_nil]); first | done | rfl | (simp only [List.length_drop, List.length_take]; rfl)) ?_
                        with_reducible refine (consts_Less.calls kj165 a0_0 a0_1 a0_2 a0_3 a1_0 a1_1 a1_2 a1_3 t286 _ A213.out).mono ?_
                        rintro e w228 ⟨rfl, hb⟩
                        refine ⟨_, rfl, ?_⟩
                        have n0_ := Aside0.mk (blk_below (g := gb263) (o := .cells #[.int .u8 a0_0, .bool a0_1, .int .i64 a0_2, .string a0_3] 25 (0, 0)) (by (with_reducible repeat (first | refine blk_drewN ?_ _ | refine blk_drew ?_ | refine blk_alloc ?_ _)); exact BK263.out) hb)
                        have n1_ := Aside0.mk (blk_below (g := gb264) (o := .cells #[.int .u8 a1_0, .bool a1_1, .int .i64 a1_2, .string a1_3] 25 (0, 0)) (by (with_reducible repeat (first | refine blk_drewN ?_ _ | refine blk_drew ?_ | refine blk_alloc ?_ _)); exact BK264.out) hb)
                        have n2_ := Aside0.mk (blk_below (g := gb265) (o := .cells #[.int .u8 a2_0, .bool a2_1, .int .i64 a2_2, .string a2_3] 25 (0, 0)) (by (with_reducible repeat (first | refine blk_drewN ?_ _ | refine blk_drew ?_ | refine blk_alloc ?_ _)); exact BK265.out) hb)
                        have n3_ := Aside0.mk (blk_below (g := gb285) (o := .cells #[.int .u8 t280, .bool t281, .int .i64 t282, .string t283] 25 (0, 0)) (by (with_reducible repeat (first | refine blk_drewN ?_ _ | refine blk_drew ?_ | refine blk_alloc ?_ _)); exact BK285.out) hb)
                        have n4_ := Aside0.mk (below_step (by repeat (first | (with_reducible first | exact HB.out | apply below_alloc | apply pw_below_drewN | apply below_drew1 | refine below_set ?_ GE263.out | refine below_set ?_ GE264.out | refine below_set ?_ GE265.out | refine below_set ?_ GE285.out) | exact HB.out)) hb)
                        clear BK263
                        clear BK264
                        clear BK265
                        clear BK285
                        clear HB
                        have BK263 := n0_
                        have BK264 := n1_
                        have BK265 := n2_
                        have BK285 := n3_
                        have HB := n4_
                        clear n0_ n1_ n2_ n3_ n4_
                        (try clear hb)
                        (try clear hb2)
                        (try clear hk)
                        (try clear hi)
                        refine hK.out _ _ ⟨(blk_cell BK285.out 0).trans rfl, (blk_cell BK285.out 1).trans rfl, (blk_cell BK285.out 2).trans rfl, (blk_cell BK285.out 3).trans rfl, (blk_cell BK263.out 0).trans rfl, (blk_cell BK263.out 1).trans rfl, (blk_cell BK263.out 2).trans rfl, (blk_cell BK263.out 3).trans rfl, (blk_cell BK264.out 0).trans rfl, (blk_cell BK264.out 1).trans rfl, (blk_cell BK264.out 2).trans rfl, (blk_cell BK264.out 3).trans rfl⟩ (fun hHeld => ?_)
                        clear hK K
                        refine norm_ (a' := ?_) ?_ ?_
                        rotate_left
                        · show Act.put _ (some 89) _ = _
                          simp only [Act.put, List.setIfInBounds_toArray, List.set_cons_zero, List.set_cons_succ, i64_w, i32_w]
                          rfl
                        refine pure_ (i := 7) (N := some 90) (v := ?_) (a' := ?_) #[true, true, true, true, true, true, true, true, false, false, false] rfl rfl (any_of HT_.out (by kernel_rfl)) (fun _ _ _ h => h) (Or.inl ⟨by rfl, ?_⟩) ?_ ?_
                        rotate_left
                        · intro w'
                          go_simp
                          with_reducible rfl
                        rotate_left
                        · simp only [Act.put, List.setIfInBounds_toArray, List.set_cons_zero, List.set_cons_succ, i64_w, i32_w]
                          rfl
                        refine pure_ (i := 8) (N := some 91) (v := ?_) (a' := ?_) #[true, true, true, true, true, true, true, true, true, false, false] rfl rfl (any_of HT_.out (by kernel_rfl)) (fun _ _ _ h => h) (Or.inl ⟨by rfl, ?_⟩) ?_ ?_
                        rotate_left
                        · intro w'
                          go_simp
                          with_reducible rfl
                        rotate_left
                        · simp only [Act.put, List.setIfInBounds_toArray, List.set_cons_zero, List.set_cons_succ, i64_w, i32_w]
                          rfl
                        refine pure_ (i := 9) (N := some 92) (v := ?_) (a' := ?_) #[true, true, true, true, true, true, true, true, true, true, false] rfl rfl (any_of HT_.out (by kernel_rfl)) (fun _ _ _ h => h) (Or.inl ⟨by rfl, ?_⟩) ?_ ?_
                        rotate_left
                        · intro w'
                          go_simp
                          with_reducible rfl
                        rotate_left
                        · simp only [Act.put, List.setIfInBounds_toArray, List.set_cons_zero, List.set_cons_succ, i64_w, i32_w]
                          rfl
                        refine pure_ (i := 10) (N := some 6) (v := ?_) (a' := ?_) #[true, true, true, true, true, true, true, true, true, true, true] rfl rfl (any_of HT_.out (by kernel_rfl)) (fun _ _ _ h => h) (Or.inl ⟨by rfl, ?_⟩) ?_ ?_
                        rotate_left
                        · intro w'
                          go_simp
                          with_reducible rfl
                        rotate_left
                        · simp only [Act.put, List.setIfInBounds_toArray, List.set_cons_zero, List.set_cons_succ, i64_w, i32_w]
                          rfl
                        refine done_ (done_of HT_.out (by kernel_rfl)) ?_
                        try go_wp2
                        go_ret
                        exact ⟨by first | rfl | (simp [errW_none, errW_some] <;> rfl) | (simp [*, errW_none, errW_some] <;> rfl), by repeat (first | (with_reducible first | exact HB.out | apply below_alloc | apply pw_below_drewN | apply below_drew1 | refine below_set ?_ GE263.out | refine below_set ?_ GE264.out | refine below_set ?_ GE265.out | refine below_set ?_ GE285.out) | exact HB.out)⟩
                      · rw [if_neg c212] at H
                        have c212b0 : (t284 == 0) = false := beq_eq_false_iff_ne.mpr c212
                        have c212b1 : (t284 != 0) = true := bne_iff_ne.mpr c212
                        obtain rfl := Option.some.inj H
                        have hnb229 := NB263_264.out
                        have hnc229 := NB264_263.out
                        have hnb230 := NB263_265.out
                        have hnc230 := NB265_263.out
                        have hcz231_0 : wc.cell? ⟨gb263, 0, none⟩ = some (.int .u8 a0_0) := (blk_cell BK263.out 0).trans rfl
                        have hcz231_1 : wc.cell? ⟨gb263, 1, none⟩ = some (.bool a0_1) := (blk_cell BK263.out 1).trans rfl
                        have hcz231_2 : wc.cell? ⟨gb263, 2, none⟩ = some (.int .i64 a0_2) := (blk_cell BK263.out 2).trans rfl
                        have hcz231_3 : wc.cell? ⟨gb263, 3, none⟩ = some (.string a0_3) := (blk_cell BK263.out 3).trans rfl
                        have hfz231_0 := blk_frozen BK263.out 0
                        have hfz231_1 := blk_frozen BK263.out 1
                        have hfz231_2 := blk_frozen BK263.out 2
                        have hfz231_3 := blk_frozen BK263.out 3
                        have hnb232 := NB264_265.out
                        have hnc232 := NB265_264.out
                        have hcz233_0 : wc.cell? ⟨gb264, 0, none⟩ = some (.int .u8 a1_0) := (blk_cell BK264.out 0).trans rfl
                        have hcz233_1 : wc.cell? ⟨gb264, 1, none⟩ = some (.bool a1_1) := (blk_cell BK264.out 1).trans rfl
                        have hcz233_2 : wc.cell? ⟨gb264, 2, none⟩ = some (.int .i64 a1_2) := (blk_cell BK264.out 2).trans rfl
                        have hcz233_3 : wc.cell? ⟨gb264, 3, none⟩ = some (.string a1_3) := (blk_cell BK264.out 3).trans rfl
                        have hfz233_0 := blk_frozen BK264.out 0
                        have hfz233_1 := blk_frozen BK264.out 1
                        have hfz233_2 := blk_frozen BK264.out 2
                        have hfz233_3 := blk_frozen BK264.out 3
                        try go_wp2_with (first | ((with_reducible refine gate_callee (f := 8) rfl ?_); refine goesL_ (some 75) rfl rfl Tryd.func8 (by kernel_rfl) rfl #[.int .u8 60, .agg #[.int .u8 a0_0, .bool a0_1, .int .i64 a0_2, .string a0_3], .agg #[.int .u8 a1_0, .bool a1_1, .int .i64 a1_2, .string a1_3]] rfl (by (try simp only [List.map_toArray, List.map_cons, List.map_nil]); first | done | rfl | (simp only [List.length_drop, List.length_take]; rfl)) ?_; (with_reducible refine (consts_Binary.calls kj165 60 a0_0 a0_1 a0_2 a0_3 a1_0 a1_1 a1_2 a1_3 t280 t281 t282 t283 t284 _ A198.out (SG.grow HS.out (by repeat (first | (with_reducible first | exact HB.out | apply below_alloc | apply pw_below_drewN | apply below_drew1 | refine below_set ?_ GE263.out | refine below_set ?_ GE264.out | refine below_set ?_ GE265.out) | exact HB.out)))).mono ?_); rintro e w234 ⟨rfl, hb⟩; refine ⟨_, rfl, ?_⟩; have n0_ := Aside0.mk (blk_below (g := gb263) (o := .cells #[.int .u8 a0_0, .bool a0_1, .int .i64 a0_2, .string a0_3] 25 (0, 0)) (by (with_reducible repeat (first | refine blk_drewN ?_ _ | refine blk_drew ?_ | refine blk_alloc ?_ _)); exact BK263.out) hb); have n1_ := Aside0.mk (blk_below (g := gb264) (o := .cells #[.int .u8 a1_0, .bool a1_1, .int .i64 a1_2, .string a1_3] 25 (0, 0)) (by (with_reducible repeat (first | refine blk_drewN ?_ _ | refine blk_drew ?_ | refine blk_alloc ?_ _)); exact BK264.out) hb); have n2_ := Aside0.mk (blk_below (g := gb265) (o := .cells #[.int .u8 a2_0, .bool a2_1, .int .i64 a2_2, .string a2_3] 25 (0, 0)) (by (with_reducible repeat (first | refine blk_drewN ?_ _ | refine blk_drew ?_ | refine blk_alloc ?_ _)); exact BK265.out) hb); have n3_ := Aside0.mk (below_step (by repeat (first | (with_reducible first | exact HB.out | apply below_alloc | apply pw_below_drewN | apply below_drew1 | refine below_set ?_ GE263.out | refine below_set ?_ GE264.out | refine below_set ?_ GE265.out) | exact HB.out)) hb); clear BK263; clear BK264; clear BK265; clear HB; have BK263 := n0_; have BK264 := n1_; have BK265 := n2_; have HB := n3_; clear n0_ n1_ n2_ n3_; (try clear hb); (try clear hb2); (try clear hk); (try clear hi)) | ((with_reducible refine gate_dst (N := 7) rfl ?_); refine box_event ?hg (N := 7) ?hd (cs := #[.int .u8 0, .bool false, .int .i64 0, .string (⟨#[]⟩ : ByteArray)]) (t := 25) ?hr ?_; (case hd => rfl); (case hg => rfl); (case hr => first | (go_simp; done) | (go_simp; rfl)); intro gb285 hg w235 hbox hb; have n0_ := Aside0.mk (blk_below (g := gb263) (o := .cells #[.int .u8 a0_0, .bool a0_1, .int .i64 a0_2, .string a0_3] 25 (0, 0)) (by (with_reducible repeat (first | refine blk_drewN ?_ _ | refine blk_drew ?_ | refine blk_alloc ?_ _)); exact BK263.out) hb); have n1_ := Aside0.mk (blk_below (g := gb264) (o := .cells #[.int .u8 a1_0, .bool a1_1, .int .i64 a1_2, .string a1_3] 25 (0, 0)) (by (with_reducible repeat (first | refine blk_drewN ?_ _ | refine blk_drew ?_ | refine blk_alloc ?_ _)); exact BK264.out) hb); have n2_ := Aside0.mk (blk_below (g := gb265) (o := .cells #[.int .u8 a2_0, .bool a2_1, .int .i64 a2_2, .string a2_3] 25 (0, 0)) (by (with_reducible repeat (first | refine blk_drewN ?_ _ | refine blk_drew ?_ | refine blk_alloc ?_ _)); exact BK265.out) hb); have n3_ := Aside0.mk (below_step (by repeat (first | (with_reducible first | exact HB.out | apply below_alloc | apply pw_below_drewN | apply below_drew1 | refine below_set ?_ GE263.out | refine below_set ?_ GE264.out | refine below_set ?_ GE265.out) | exact HB.out)) hb); have n4_ := Aside0.mk (hbox); have n5_ := Aside0.mk ((by rw [hg]; exact (below_size (by repeat (first | (with_reducible first | exact HB.out | apply below_alloc | apply pw_below_drewN | apply below_drew1 | refine below_set ?_ GE263.out | refine below_set ?_ GE264.out | refine below_set ?_ GE265.out) | exact HB.out))) : w.heap.size ≤ gb285)); have n6_ := Aside0.mk ((by rw [hg]; exact (below_size (by repeat (first | (with_reducible first | exact HB.out | apply below_alloc | apply pw_below_drewN | apply below_drew1 | refine below_set ?_ GE263.out | refine below_set ?_ GE264.out | refine below_set ?_ GE265.out) | exact HB.out))) : w.heap.size ≤ gb285)); have n7_ := Aside0.mk ((by rw [hg]; exact Nat.ne_of_lt (blk_lt (g := gb263) (o := .cells #[.int .u8 a0_0, .bool a0_1, .int .i64 a0_2, .string a0_3] 25 (0, 0)) (by (with_reducible repeat (first | refine blk_drewN ?_ _ | refine blk_drew ?_ | refine blk_alloc ?_ _)); exact BK263.out)) : gb263 ≠ gb285)); have n8_ := Aside0.mk ((by rw [hg]; exact Nat.ne_of_gt (blk_lt (g := gb263) (o := .cells #[.int .u8 a0_0, .bool a0_1, .int .i64 a0_2, .string a0_3] 25 (0, 0)) (by (with_reducible repeat (first | refine blk_drewN ?_ _ | refine blk_drew ?_ | refine blk_alloc ?_ _)); exact BK263.out)) : gb285 ≠ gb263)); have n9_ := Aside0.mk ((by rw [hg]; exact Nat.ne_of_lt (blk_lt (g := gb264) (o := .cells #[.int .u8 a1_0, .bool a1_1, .int .i64 a1_2, .string a1_3] 25 (0, 0)) (by (with_reducible repeat (first | refine blk_drewN ?_ _ | refine blk_drew ?_ | refine blk_alloc ?_ _)); exact BK264.out)) : gb264 ≠ gb285)); have n10_ := Aside0.mk ((by rw [hg]; exact Nat.ne_of_gt (blk_lt (g := gb264) (o := .cells #[.int .u8 a1_0, .bool a1_1, .int .i64 a1_2, .string a1_3] 25 (0, 0)) (by (with_reducible repeat (first | refine blk_drewN ?_ _ | refine blk_drew ?_ | refine blk_alloc ?_ _)); exact BK264.out)) : gb285 ≠ gb264)); have n11_ := Aside0.mk ((by rw [hg]; exact Nat.ne_of_lt (blk_lt (g := gb265) (o := .cells #[.int .u8 a2_0, .bool a2_1, .int .i64 a2_2, .string a2_3] 25 (0, 0)) (by (with_reducible repeat (first | refine blk_drewN ?_ _ | refine blk_drew ?_ | refine blk_alloc ?_ _)); exact BK265.out)) : gb265 ≠ gb285)); have n12_ := Aside0.mk ((by rw [hg]; exact Nat.ne_of_gt (blk_lt (g := gb265) (o := .cells #[.int .u8 a2_0, .bool a2_1, .int .i64 a2_2, .string a2_3] 25 (0, 0)) (by (with_reducible repeat (first | refine blk_drewN ?_ _ | refine blk_drew ?_ | refine blk_alloc ?_ _)); exact BK265.out)) : gb285 ≠ gb265)); clear BK263; clear BK264; clear BK265; clear HB; have BK263 := n0_; have BK264 := n1_; have BK265 := n2_; have HB := n3_; have BK285 := n4_; have GW285 := n5_; have GE285 := n6_; have NB263_285 := n7_; have NB285_263 := n8_; have NB264_285 := n9_; have NB285_264 := n10_; have NB265_285 := n11_; have NB285_265 := n12_; clear n0_ n1_ n2_ n3_ n4_ n5_ n6_ n7_ n8_ n9_ n10_ n11_ n12_; clear hb hbox hg; have hnb236 := NB285_263.out; have hnc236 := NB263_285.out; have hnb237 := NB285_264.out; have hnc237 := NB264_285.out; have hnb238 := NB285_265.out; have hnc238 := NB265_285.out; have hcz239_0 : w235.cell? ⟨gb285, 0, none⟩ = some (.int .u8 0) := (blk_cell BK285.out 0).trans rfl; have hcz239_1 : w235.cell? ⟨gb285, 1, none⟩ = some (.bool false) := (blk_cell BK285.out 1).trans rfl; have hcz239_2 : w235.cell? ⟨gb285, 2, none⟩ = some (.int .i64 0) := (blk_cell BK285.out 2).trans rfl; have hcz239_3 : w235.cell? ⟨gb285, 3, none⟩ = some (.string (⟨#[]⟩ : ByteArray)) := (blk_cell BK285.out 3).trans rfl; have hfz239_0 := blk_frozen BK285.out 0; have hfz239_1 := blk_frozen BK285.out 1; have hfz239_2 := blk_frozen BK285.out 2; have hfz239_3 := blk_frozen BK285.out 3; have hcz240_0 : w235.cell? ⟨gb263, 0, none⟩ = some (.int .u8 a0_0) := (blk_cell BK263.out 0).trans rfl; have hcz240_1 : w235.cell? ⟨gb263, 1, none⟩ = some (.bool a0_1) := (blk_cell BK263.out 1).trans rfl; have hcz240_2 : w235.cell? ⟨gb263, 2, none⟩ = some (.int .i64 a0_2) := (blk_cell BK263.out 2).trans rfl; have hcz240_3 : w235.cell? ⟨gb263, 3, none⟩ = some (.string a0_3) := (blk_cell BK263.out 3).trans rfl; have hfz240_0 := blk_frozen BK263.out 0; have hfz240_1 := blk_frozen BK263.out 1; have hfz240_2 := blk_frozen BK263.out 2; have hfz240_3 := blk_frozen BK263.out 3))
                        have n0_ : Aside0 (((((w235.setCell ⟨gb285, 0, none⟩ (.int .u8 t280)).setCell ⟨gb285, 1, none⟩ (.bool t281)).setCell ⟨gb285, 2, none⟩ (.int .i64 t282)).setCell ⟨gb285, 3, none⟩ (.string t283)).heap[gb263]? = some (.cells #[.int .u8 a0_0, .bool a0_1, .int .i64 a0_2, .string a0_3] 25 (0, 0))) := ⟨by (with_reducible repeat (first | refine blk_drewN ?_ _ | refine blk_drew ?_ | refine blk_alloc ?_ _)); refine blk_far ?_ NB263_285.out _; (with_reducible repeat (first | refine blk_drewN ?_ _ | refine blk_drew ?_ | refine blk_alloc ?_ _)); refine blk_far ?_ NB263_285.out _; (with_reducible repeat (first | refine blk_drewN ?_ _ | refine blk_drew ?_ | refine blk_alloc ?_ _)); refine blk_far ?_ NB263_285.out _; (with_reducible repeat (first | refine blk_drewN ?_ _ | refine blk_drew ?_ | refine blk_alloc ?_ _)); refine blk_far ?_ NB263_285.out _; (with_reducible repeat (first | refine blk_drewN ?_ _ | refine blk_drew ?_ | refine blk_alloc ?_ _)); exact BK263.out⟩
                        have n1_ : Aside0 (((((w235.setCell ⟨gb285, 0, none⟩ (.int .u8 t280)).setCell ⟨gb285, 1, none⟩ (.bool t281)).setCell ⟨gb285, 2, none⟩ (.int .i64 t282)).setCell ⟨gb285, 3, none⟩ (.string t283)).heap[gb264]? = some (.cells #[.int .u8 a1_0, .bool a1_1, .int .i64 a1_2, .string a1_3] 25 (0, 0))) := ⟨by (with_reducible repeat (first | refine blk_drewN ?_ _ | refine blk_drew ?_ | refine blk_alloc ?_ _)); refine blk_far ?_ NB264_285.out _; (with_reducible repeat (first | refine blk_drewN ?_ _ | refine blk_drew ?_ | refine blk_alloc ?_ _)); refine blk_far ?_ NB264_285.out _; (with_reducible repeat (first | refine blk_drewN ?_ _ | refine blk_drew ?_ | refine blk_alloc ?_ _)); refine blk_far ?_ NB264_285.out _; (with_reducible repeat (first | refine blk_drewN ?_ _ | refine blk_drew ?_ | refine blk_alloc ?_ _)); refine blk_far ?_ NB264_285.out _; (with_reducible repeat (first | refine blk_drewN ?_ _ | refine blk_drew ?_ | refine blk_alloc ?_ _)); exact BK264.out⟩
                        have n2_ : Aside0 (((((w235.setCell ⟨gb285, 0, none⟩ (.int .u8 t280)).setCell ⟨gb285, 1, none⟩ (.bool t281)).setCell ⟨gb285, 2, none⟩ (.int .i64 t282)).setCell ⟨gb285, 3, none⟩ (.string t283)).heap[gb265]? = some (.cells #[.int .u8 a2_0, .bool a2_1, .int .i64 a2_2, .string a2_3] 25 (0, 0))) := ⟨by (with_reducible repeat (first | refine blk_drewN ?_ _ | refine blk_drew ?_ | refine blk_alloc ?_ _)); refine blk_far ?_ NB265_285.out _; (with_reducible repeat (first | refine blk_drewN ?_ _ | refine blk_drew ?_ | refine blk_alloc ?_ _)); refine blk_far ?_ NB265_285.out _; (with_reducible repeat (first | refine blk_drewN ?_ _ | refine blk_drew ?_ | refine blk_alloc ?_ _)); refine blk_far ?_ NB265_285.out _; (with_reducible repeat (first | refine blk_drewN ?_ _ | refine blk_drew ?_ | refine blk_alloc ?_ _)); refine blk_far ?_ NB265_285.out _; (with_reducible repeat (first | refine blk_drewN ?_ _ | refine blk_drew ?_ | refine blk_alloc ?_ _)); exact BK265.out⟩
                        have n3_ : Aside0 (((((w235.setCell ⟨gb285, 0, none⟩ (.int .u8 t280)).setCell ⟨gb285, 1, none⟩ (.bool t281)).setCell ⟨gb285, 2, none⟩ (.int .i64 t282)).setCell ⟨gb285, 3, none⟩ (.string t283)).heap[gb285]? = some (.cells #[.int .u8 t280, .bool t281, .int .i64 t282, .string t283] 25 (0, 0))) := ⟨by (with_reducible repeat (first | refine blk_drewN ?_ _ | refine blk_drew ?_ | refine blk_alloc ?_ _)); refine blk_put (cs := #[.int .u8 t280, .bool t281, .int .i64 t282, .string (⟨#[]⟩ : ByteArray)]) ?_ 3 _ rfl; (with_reducible repeat (first | refine blk_drewN ?_ _ | refine blk_drew ?_ | refine blk_alloc ?_ _)); refine blk_put (cs := #[.int .u8 t280, .bool t281, .int .i64 0, .string (⟨#[]⟩ : ByteArray)]) ?_ 2 _ rfl; (with_reducible repeat (first | refine blk_drewN ?_ _ | refine blk_drew ?_ | refine blk_alloc ?_ _)); refine blk_put (cs := #[.int .u8 t280, .bool false, .int .i64 0, .string (⟨#[]⟩ : ByteArray)]) ?_ 1 _ rfl; (with_reducible repeat (first | refine blk_drewN ?_ _ | refine blk_drew ?_ | refine blk_alloc ?_ _)); refine blk_put (cs := #[.int .u8 0, .bool false, .int .i64 0, .string (⟨#[]⟩ : ByteArray)]) ?_ 0 _ rfl; (with_reducible repeat (first | refine blk_drewN ?_ _ | refine blk_drew ?_ | refine blk_alloc ?_ _)); exact BK285.out⟩
                        have n4_ : Aside0 (Below w.heap.size w ((((w235.setCell ⟨gb285, 0, none⟩ (.int .u8 t280)).setCell ⟨gb285, 1, none⟩ (.bool t281)).setCell ⟨gb285, 2, none⟩ (.int .i64 t282)).setCell ⟨gb285, 3, none⟩ (.string t283))) := ⟨by repeat (first | (with_reducible first | exact HB.out | apply below_alloc | apply pw_below_drewN | apply below_drew1 | refine below_set ?_ GE263.out | refine below_set ?_ GE264.out | refine below_set ?_ GE265.out | refine below_set ?_ GE285.out) | exact HB.out)⟩
                        (try clear BK263)
                        (try clear BK264)
                        (try clear BK265)
                        (try clear BK285)
                        (try clear HB)
                        generalize ((((w235.setCell ⟨gb285, 0, none⟩ (.int .u8 t280)).setCell ⟨gb285, 1, none⟩ (.bool t281)).setCell ⟨gb285, 2, none⟩ (.int .i64 t282)).setCell ⟨gb285, 3, none⟩ (.string t283)) = w241 at n0_ n1_ n2_ n3_ n4_ ⊢
                        have BK263 := n0_
                        have BK264 := n1_
                        have BK265 := n2_
                        have BK285 := n3_
                        have HB := n4_
                        clear n0_ n1_ n2_ n3_ n4_
                        have n0_ := Aside0.mk (blk_drew BK263.out)
                        have n1_ := Aside0.mk (blk_drew BK264.out)
                        have n2_ := Aside0.mk (blk_drew BK265.out)
                        have n3_ := Aside0.mk (blk_drew BK285.out)
                        have n4_ := Aside0.mk (below_drew1 HB.out)
                        clear BK263
                        clear BK264
                        clear BK265
                        clear BK285
                        clear HB
                        have BK263 := n0_
                        have BK264 := n1_
                        have BK265 := n2_
                        have BK285 := n3_
                        have HB := n4_
                        clear n0_ n1_ n2_ n3_ n4_
                        refine start_ (n := 11) (S := fun w' => True) (ds := []) #[false, false, false, false, false, false, false, false, false, false, false] (by kernel_rfl) rfl rfl trivial (fun hHeld => ?_); refine with_tabW monikerlaw8_ConstOrder.tab10 monikerlaw8_ConstOrder.bits10 (fun HT_ HW_ => ?_)
                        generalize w241.drew = w242 at BK263 BK264 BK265 BK285 HB hHeld ⊢
                        refine pure_ (i := 0) (N := some 83) (v := ?_) (a' := ?_) #[true, false, false, false, false, false, false, false, false, false, false] rfl rfl (any_of HT_.out (by kernel_rfl)) (fun _ _ _ h => h) (Or.inl ⟨by rfl, ?_⟩) ?_ ?_
                        rotate_left
                        · intro w'
                          go_simp
                          with_reducible rfl
                        rotate_left
                        · simp only [Act.put, List.setIfInBounds_toArray, List.set_cons_zero, List.set_cons_succ, i64_w, i32_w]
                          rfl
                        refine pure_ (i := 1) (N := some 84) (v := ?_) (a' := ?_) #[true, true, false, false, false, false, false, false, false, false, false] rfl rfl (any_of HT_.out (by kernel_rfl)) (fun _ _ _ h => h) (Or.inl ⟨by rfl, ?_⟩) ?_ ?_
                        rotate_left
                        · intro w'
                          go_simp
                          with_reducible rfl
                        rotate_left
                        · simp only [Act.put, List.setIfInBounds_toArray, List.set_cons_zero, List.set_cons_succ, i64_w, i32_w]
                          rfl
                        refine pure_ (i := 2) (N := some 85) (v := ?_) (a' := ?_) #[true, true, true, false, false, false, false, false, false, false, false] rfl rfl (any_of HT_.out (by kernel_rfl)) (fun _ _ _ h => h) (Or.inl ⟨by rfl, ?_⟩) ?_ ?_
                        rotate_left
                        · intro w'
                          go_simp
                          with_reducible rfl
                        rotate_left
                        · simp only [Act.put, List.setIfInBounds_toArray, List.set_cons_zero, List.set_cons_succ, i64_w, i32_w]
                          rfl
                        refine pure_ (i := 3) (N := some 86) (v := undef) (a' := ?_) #[true, true, true, true, false, false, false, false, false, false, false] rfl rfl (any_of HT_.out (by kernel_rfl)) (fun _ _ _ h => h) (Or.inr ⟨by rfl, rfl⟩) ?_ ?_
                        rotate_left
                        · simp only [Act.put, List.setIfInBounds_toArray, List.set_cons_zero, List.set_cons_succ, i64_w, i32_w]
                          rfl
                        refine pure_ (i := 4) (N := some 87) (v := undef) (a' := ?_) #[true, true, true, true, true, false, false, false, false, false, false] rfl rfl (any_of HT_.out (by kernel_rfl)) (fun _ _ _ h => h) (Or.inr ⟨by rfl, rfl⟩) ?_ ?_
                        rotate_left
                        · simp only [Act.put, List.setIfInBounds_toArray, List.set_cons_zero, List.set_cons_succ, i64_w, i32_w]
                          rfl
                        refine pure_ (i := 5) (N := some 88) (v := undef) (a' := ?_) #[true, true, true, true, true, true, false, false, false, false, false] rfl rfl (any_of HT_.out (by kernel_rfl)) (fun _ _ _ h => h) (Or.inr ⟨by rfl, rfl⟩) ?_ ?_
                        rotate_left
                        · simp only [Act.put, List.setIfInBounds_toArray, List.set_cons_zero, List.set_cons_succ, i64_w, i32_w]
                          rfl
                        refine pure_ (i := 6) (N := some 89) (v := undef) (a' := ?_) #[true, true, true, true, true, true, true, false, false, false, false] rfl rfl (any_of HT_.out (by kernel_rfl)) (fun _ _ _ h => h) (Or.inr ⟨by rfl, rfl⟩) ?_ ?_
                        rotate_left
                        · simp only [Act.put, List.setIfInBounds_toArray, List.set_cons_zero, List.set_cons_succ, i64_w, i32_w]
                          rfl
                        refine pure_ (i := 7) (N := some 90) (v := undef) (a' := ?_) #[true, true, true, true, true, true, true, true, false, false, false] rfl rfl (any_of HT_.out (by kernel_rfl)) (fun _ _ _ h => h) (Or.inr ⟨by rfl, rfl⟩) ?_ ?_
                        rotate_left
                        · simp only [Act.put, List.setIfInBounds_toArray, List.set_cons_zero, List.set_cons_succ, i64_w, i32_w]
                          rfl
                        refine pure_ (i := 8) (N := some 91) (v := undef) (a' := ?_) #[true, true, true, true, true, true, true, true, true, false, false] rfl rfl (any_of HT_.out (by kernel_rfl)) (fun _ _ _ h => h) (Or.inr ⟨by rfl, rfl⟩) ?_ ?_
                        rotate_left
                        · simp only [Act.put, List.setIfInBounds_toArray, List.set_cons_zero, List.set_cons_succ, i64_w, i32_w]
                          rfl
                        refine pure_ (i := 9) (N := some 92) (v := ?_) (a' := ?_) #[true, true, true, true, true, true, true, true, true, true, false] rfl rfl (any_of HT_.out (by kernel_rfl)) (fun _ _ _ h => h) (Or.inl ⟨by rfl, ?_⟩) ?_ ?_
                        rotate_left
                        · intro w'
                          go_simp
                          with_reducible rfl
                        rotate_left
                        · simp only [Act.put, List.setIfInBounds_toArray, List.set_cons_zero, List.set_cons_succ, i64_w, i32_w]
                          rfl
                        refine pure_ (i := 10) (N := some 6) (v := ?_) (a' := ?_) #[true, true, true, true, true, true, true, true, true, true, true] rfl rfl (any_of HT_.out (by kernel_rfl)) (fun _ _ _ h => h) (Or.inl ⟨by rfl, ?_⟩) ?_ ?_
                        rotate_left
                        · intro w'
                          go_simp
                          with_reducible rfl
                        rotate_left
                        · simp only [Act.put, List.setIfInBounds_toArray, List.set_cons_zero, List.set_cons_succ, i64_w, i32_w]
                          rfl
                        refine done_ (done_of HT_.out (by kernel_rfl)) ?_
                        try go_wp2
                        go_ret
                        exact ⟨by first | rfl | (simp [errW_none, errW_some] <;> rfl) | (simp [*, errW_none, errW_some] <;> rfl), by repeat (first | (with_reducible first | exact HB.out | apply below_alloc | apply pw_below_drewN | apply below_drew1 | refine below_set ?_ GE263.out | refine below_set ?_ GE264.out | refine below_set ?_ GE265.out | refine below_set ?_ GE285.out) | exact HB.out)⟩

end Go.Proofs.YteklmgmhkmdddaaDoor.S

-- ConstOrder, plainly: Less is a strict order; '<' says it
namespace Go.Proofs.YteklmgmhkmdddaaDoor.Q
open Go.RowKit Go.Proofs.YteklmgmhkmdddaaDoor.S Go.Proofs.YteklmgmhkmdddaaDoorW.PrintWords Go.Proofs.YteklmgmhkmdddaaDoorW.PrintLast Go.Proofs.YteklmgmhkmdddaaDoorW.PrintMore
set_option linter.unusedSimpArgs false
set_option linter.unusedVariables false

theorem bl_asym : ∀ (l m : List UInt8), Op.bytesLess l m = true → Op.bytesLess m l = false
  | [], [], _ => rfl
  | [], _ :: _, _ => rfl
  | _ :: _, [], h => by simp [Op.bytesLess] at h
  | x :: l, y :: m, h => by
    simp only [Op.bytesLess] at h ⊢
    by_cases c1 : x = y
    · subst c1
      simp at h ⊢
      exact bl_asym l m h
    · have c2 : ¬ y = x := fun e => c1 e.symm
      simp [c1, c2] at h ⊢
      exact UInt8.le_of_lt h
theorem bl_trans : ∀ (l m r : List UInt8), Op.bytesLess l m = true → Op.bytesLess m r = true → Op.bytesLess l r = true
  | [], [], _, h, _ => by simp [Op.bytesLess] at h
  | [], _ :: _, [], _, h => by simp [Op.bytesLess] at h
  | [], _ :: _, _ :: _, _, _ => rfl
  | _ :: _, [], _, h, _ => by simp [Op.bytesLess] at h
  | _ :: _, _ :: _, [], _, h => by simp [Op.bytesLess] at h
  | x :: l, y :: m, z :: r, h, k => by
    simp only [Op.bytesLess] at h k ⊢
    by_cases c1 : x = y
    · subst c1
      by_cases c2 : x = z
      · subst c2
        simp at h k ⊢
        exact bl_trans l m r h k
      · simp [c2] at k ⊢
        exact k
    · simp [c1] at h
      by_cases c2 : y = z
      · subst c2
        simp [c1]
        exact h
      · simp [c2] at k
        have h3 : x < z := UInt8.lt_trans h k
        have c3 : ¬ x = z := fun e => by subst e; exact absurd h3 (UInt8.lt_irrefl _)
        simp [c3]
        exact h3
theorem bl_total : ∀ (l m : List UInt8), Op.bytesLess l m = false → Op.bytesLess m l = false → l = m
  | [], [], _, _ => rfl
  | [], _ :: _, h, _ => by simp [Op.bytesLess] at h
  | _ :: _, [], _, h => by simp [Op.bytesLess] at h
  | x :: l, y :: m, h, k => by
    simp only [Op.bytesLess] at h k
    by_cases c1 : x = y
    · subst c1
      simp at h k
      rw [bl_total l m h k]
    · have c2 : ¬ y = x := fun e => c1 e.symm
      simp [c1] at h
      simp [c2] at k
      exact absurd (UInt8.le_antisymm k h) c1
def lessT (s : Int) (b : Bool) (n : Int) (t : ByteArray) (b' : Bool) (n' : Int) (t' : ByteArray) : Bool := if s = 1 then (!b && b') else if s = 2 then decide (n < n') else Op.bytesLess t.toList t'.toList
def lessV (s : Int) (b : Bool) (n : Int) (t : ByteArray) (s' : Int) (b' : Bool) (n' : Int) (t' : ByteArray) : Bool :=
  rightB s b n t && (rightB s' b' n' t' && (s == s' && lessT s b n t b' n' t'))
theorem Less_is (k : Nat) (s : Int) (b : Bool) (n : Int) (t : ByteArray) (s' : Int) (b' : Bool) (n' : Int) (t' : ByteArray) : consts_Less.f (k + 1) s b n t s' b' n' t' = some (lessV s b n t s' b' n' t') := by
  unfold consts_Less.f lessV
  rw [right_is, right_is]
  simp only [Option.bind_some]
  cases rightB s b n t
  · simp only [Bool.false_eq_true, if_false, Bool.false_and, consts_Less.j0, if_true]
  cases rightB s' b' n' t'
  · simp only [Bool.false_eq_true, if_false, Bool.false_and, Bool.and_false, consts_Less.j0, if_true]
  simp only [if_true, Bool.true_and, consts_Less.j0]
  by_cases e : s = s'
  · subst e
    rw [if_neg (by simp)]
    unfold lessT
    simp only [beq_self_eq_true, Bool.true_and]
    by_cases h1 : s = 1
    · rw [if_pos h1, if_pos h1]
      cases b <;> rfl
    rw [if_neg h1, if_neg h1]
    by_cases h2 : s = 2
    · rw [if_pos h2, if_pos h2]
    rw [if_neg h2, if_neg h2]
  · rw [if_pos (by simp [e])]
    simp [e]
theorem Right_is (s : Int) (b : Bool) (n : Int) (t : ByteArray) : monikerref8_Right.f s b n t = some (rightB s b n t) := by
  unfold monikerref8_Right.f rightB
  by_cases h1 : s = 1
  · rw [if_pos h1, if_pos h1]
    by_cases h : n = 0
    · rw [if_pos h]; simp [h]
    · rw [if_neg h]; simp [h]
  rw [if_neg h1, if_neg h1]
  by_cases h2 : s = 2
  · rw [if_pos h2, if_pos h2]
    cases b <;> simp
  rw [if_neg h2, if_neg h2]
  by_cases h3 : s = 3
  · rw [if_pos h3, if_pos h3]
    cases b <;> simp
  rw [if_neg h3, if_neg h3]
theorem less_irr (s : Int) (b : Bool) (n : Int) (t : ByteArray) : lessV s b n t s b n t = false := by
  have : lessT s b n t b n t = false := by
    unfold lessT
    split
    · cases b <;> rfl
    · split
      · simp
      · exact bytesLess_self _
  unfold lessV
  rw [this]
  simp
theorem less_asym {s : Int} {b : Bool} {n : Int} {t : ByteArray} {s' : Int} {b' : Bool} {n' : Int} {t' : ByteArray} (h : lessV s b n t s' b' n' t' = true) : lessV s' b' n' t' s b n t = false := by
  unfold lessV at h ⊢
  simp only [Bool.and_eq_true, beq_iff_eq] at h
  obtain ⟨_, _, rfl, h⟩ := h
  have : lessT s b' n' t' b n t = false := by
    unfold lessT at h ⊢
    split
    · rename_i c; rw [if_pos c] at h; cases b <;> cases b' <;> simp_all
    · rename_i c; rw [if_neg c] at h
      split
      · rename_i c2; rw [if_pos c2] at h; simp at h ⊢; omega
      · rename_i c2; rw [if_neg c2] at h; exact bl_asym _ _ h
  rw [this]
  simp
theorem less_trans {s : Int} {b : Bool} {n : Int} {t : ByteArray} {s' : Int} {b' : Bool} {n' : Int} {t' : ByteArray} {s'' : Int} {b'' : Bool} {n'' : Int} {t'' : ByteArray} (h : lessV s b n t s' b' n' t' = true) (k : lessV s' b' n' t' s'' b'' n'' t'' = true) : lessV s b n t s'' b'' n'' t'' = true := by
  unfold lessV at h k ⊢
  simp only [Bool.and_eq_true, beq_iff_eq] at h k ⊢
  obtain ⟨h1, _, rfl, h⟩ := h
  obtain ⟨_, k2, rfl, k⟩ := k
  refine ⟨h1, k2, rfl, ?_⟩
  unfold lessT at h k ⊢
  split
  · rename_i c; rw [if_pos c] at h k; cases b <;> cases b' <;> cases b'' <;> simp_all
  · rename_i c; rw [if_neg c] at h k
    split
    · rename_i c2; rw [if_pos c2] at h k; simp at h k ⊢; omega
    · rename_i c2; rw [if_neg c2] at h k; exact bl_trans _ _ _ h k
theorem less_total {s : Int} {b : Bool} {n : Int} {t : ByteArray} {b' : Bool} {n' : Int} {t' : ByteArray} (hr : rightB s b n t = true) (hr' : rightB s b' n' t' = true) (h : lessV s b n t s b' n' t' = false) (k : lessV s b' n' t' s b n t = false) : b = b' ∧ n = n' ∧ t.toList = t'.toList := by
  unfold lessV at h k
  rw [hr, hr'] at h k
  simp only [Bool.true_and, beq_self_eq_true] at h k
  unfold rightB at hr hr'
  unfold lessT at h k
  by_cases h1 : s = 1
  · rw [if_pos h1] at h k hr hr'
    simp at hr hr'
    refine ⟨?_, by rw [hr.1, hr'.1], by rw [hr.2, hr'.2]⟩
    cases b <;> cases b' <;> simp_all
  rw [if_neg h1] at h k hr hr'
  by_cases h2 : s = 2
  · rw [if_pos h2] at h k hr hr'
    simp at h k hr hr'
    exact ⟨by rw [hr.1, hr'.1], by omega, by rw [hr.2, hr'.2]⟩
  rw [if_neg h2] at h k hr hr'
  by_cases h3 : s = 3
  · rw [if_pos h3] at hr hr'
    simp at hr hr'
    exact ⟨by rw [hr.1, hr'.1], by rw [hr.2, hr'.2], bl_total _ _ h k⟩
  · rw [if_neg h3] at hr
    cases hr
theorem sg60 (l s : Bool) : sgB 60 ((sgnI l s : Nat) : Int) = l := by cases l <;> cases s <;> rfl
/-- What '<' says of two right values of one sort. -/
theorem lt_is {s : Int} {b : Bool} {n : Int} {t : ByteArray} {b' : Bool} {n' : Int} {t' : ByteArray} (hr : rightB s b n t = true) (hr' : rightB s b' n' t' = true) :
    binV 60 s b n t s b' n' t' = if s = 1 then erV 81 else okB (lessV s b n t s b' n' t') := by
  unfold binV lessV lessT
  rw [hr, hr', show isBin 60 = true from rfl, if_pos (by rfl), if_pos rfl]
  by_cases h1 : s = 1
  · rw [if_neg (by omega), if_neg (by omega), if_pos h1]
    rfl
  rw [if_neg h1]
  by_cases h2 : s = 2
  · rw [if_pos h2, if_neg h1, if_pos h2]
    show okB (sgB 60 _) = _
    rw [sg60]
    simp
  rw [if_neg h2, if_neg h1, if_neg h2]
  have h3 : s = 3 := by
    unfold rightB at hr
    rw [if_neg h1, if_neg h2] at hr
    exact Classical.byContradiction fun h => by rw [if_neg h] at hr; cases hr
  rw [if_pos h3]
  show okB (sgB 60 _) = _
  rw [sg60]
  simp
theorem j2_order (k : Nat) {s : Int} {b : Bool} {n : Int} {t : ByteArray} {b' : Bool} {n' : Int} {t' : ByteArray} (hr : rightB s b n t = true) (hr' : rightB s b' n' t' = true) (hn : In64 n) (hn' : In64 n') (ht : t.size + t'.size ≤ 1000000000000000000) :
    monikerlaw8_ConstOrder.j2 (k + 6) false s b n t s b' n' t' = some true := by
  simp only [monikerlaw8_ConstOrder.j2]
  rw [if_neg (by simp), bin_is k 60 s b n t s b' n' t' (by decide) hn hn' ht, lt_is hr hr']
  simp only [Option.bind_some]
  by_cases h1 : s = 1
  · rw [if_pos h1, if_pos h1]
    rfl
  · rw [if_neg h1, if_neg h1, if_pos (by rfl), Less_is]
    simp [okB, nil_list]
theorem j1_order (k : Nat) (s : Int) (b : Bool) (n : Int) (t : ByteArray) (s' : Int) (b' : Bool) (n' : Int) (t' : ByteArray) (x : Bool) (hx : x = !(rightB s b n t && (rightB s' b' n' t' && s == s'))) (hn : In64 n) (hn' : In64 n') (ht : t.size + t'.size ≤ 1000000000000000000) :
    monikerlaw8_ConstOrder.j1 (k + 7) x s b n t s' b' n' t' = some true := by
  simp only [monikerlaw8_ConstOrder.j1]
  rw [Less_is, Less_is]
  simp only [Option.bind_some]
  cases x
  · rw [if_neg (by simp)]
    have hx' : (rightB s b n t && (rightB s' b' n' t' && s == s')) = true := by simpa using hx.symm
    simp only [Bool.and_eq_true, beq_iff_eq] at hx'
    obtain ⟨hr, hr', rfl⟩ := hx'
    have hj := j2_order k hr hr' hn hn' ht
    cases h1 : lessV s b n t s b' n' t'
    · cases h2 : lessV s b' n' t' s b n t
      · obtain ⟨rfl, rfl, ht'⟩ := less_total hr hr' h1 h2
        rw [if_neg (by simp), if_neg (by simp), show (!(s == s) || (!(b == b) || (!(n == n) || (!(t.toList == t'.toList))))) = false by simp [ht']]
        exact hj
      · rw [if_neg (by simp), if_pos rfl]
        exact hj
    · rw [if_pos rfl]
      exact hj
  · rw [if_pos rfl]
    have hl : lessV s b n t s' b' n' t' = false := by
      unfold lessV
      cases e1 : rightB s b n t
      · rfl
      cases e2 : rightB s' b' n' t'
      · rfl
      rw [e1, e2] at hx
      simp at hx
      simp [hx]
    rw [hl]
    rfl
theorem j0_order (k : Nat) (s : Int) (b : Bool) (n : Int) (t : ByteArray) (s' : Int) (b' : Bool) (n' : Int) (t' : ByteArray) (hn : In64 n) (hn' : In64 n') (ht : t.size + t'.size ≤ 1000000000000000000) :
    monikerlaw8_ConstOrder.j0 (k + 8) false s b n t s' b' n' t' = some true := by
  simp only [monikerlaw8_ConstOrder.j0]
  rw [if_neg (by simp), Right_is, Right_is]
  simp only [Option.bind_some]
  cases e1 : rightB s b n t
  · rw [if_neg (by simp)]
    exact j1_order k s b n t s' b' n' t' true (by rw [e1]; rfl) hn hn' ht
  cases e2 : rightB s' b' n' t'
  · rw [if_pos rfl, if_neg (by simp)]
    exact j1_order k s b n t s' b' n' t' true (by rw [e1, e2]; rfl) hn hn' ht
  rw [if_pos rfl, if_pos rfl]
  exact j1_order k s b n t s' b' n' t' _ (by rw [e1, e2]; simp [bne]) hn hn' ht
theorem order_is (s : Int) (b : Bool) (n : Int) (t : ByteArray) (s' : Int) (b' : Bool) (n' : Int) (t' : ByteArray) (s'' : Int) (b'' : Bool) (n'' : Int) (t'' : ByteArray) (hn : In64 n) (hn' : In64 n') (ht : t.size + t'.size ≤ 1000000000000000000) :
    monikerlaw8_ConstOrder.f 8 s b n t s' b' n' t' s'' b'' n'' t'' = some true := by
  have hj := j0_order 0 s b n t s' b' n' t' hn hn' ht
  unfold monikerlaw8_ConstOrder.f
  simp only [Less_is 7, Option.bind_some, less_irr]
  rw [if_neg (by simp)]
  cases h1 : lessV s b n t s' b' n' t'
  · rw [if_neg (by simp), if_neg (by simp)]
    exact hj
  · rw [if_pos rfl, less_asym h1, if_neg (by simp), if_pos rfl]
    cases h2 : lessV s' b' n' t' s'' b'' n'' t''
    · rw [if_neg (by simp)]
      exact hj
    · rw [if_pos rfl, less_trans h1 h2]
      exact hj
end Go.Proofs.YteklmgmhkmdddaaDoor.Q

namespace Go.Proofs.YteklmgmhkmdddaaDoor.O
open Go.ChangeShapes Go.WideShapes Go.Deep Go.Proofs.YteklmgmhkmdddaaDoorW.PrintWords

/-- What a value of type t that came in is, as a Lean value of kind d; and what is known of it. -/
def Opens {α : Type} (P : Program) (t : TypeId) (d : Kd α) (B : α → Prop) : Prop :=
  ∀ {H : Type} {enc : TypeId × Value → H} {w : World} {base : Nat} {spare : Nat → Bool} {held : Bool} {fuel : Nat} {cs : List Value} {x : DataW H × List MemPlace},
    DataW.trod enc P w base spare held fuel t cs = some x → (∀ n ∈ x.1.weights P t, n ≤ reachBytes) → ∃ a, d.K w a cs ∧ B a

theorem opens_int {P : Program} {t : TypeId} {k : IntKind} (hu : P.underlying t = some (.int k)) : Opens P t (Kd.int k) (fun n => (Lit.int k n).wf = true) := fun h _ => by
  obtain ⟨n, rfl, rfl, hw⟩ := DataW.trod_int hu h
  exact ⟨n, rfl, hw⟩
theorem opens_bool {P : Program} {t : TypeId} (hu : P.underlying t = some .bool) : Opens P t Kd.bool (fun _ => True) := fun h _ => by
  obtain ⟨n, rfl, rfl⟩ := DataW.trod_bool hu h
  exact ⟨n, rfl, trivial⟩
theorem opens_string {P : Program} {t : TypeId} (hu : P.underlying t = some .string) : Opens P t Kd.string (fun s => s.size ≤ 140737488351232) := fun h hw => by
  obtain ⟨s, rfl, rfl, _⟩ := DataW.trod_string hu h
  refine ⟨s, rfl, ?_⟩
  have := hw s.data.toList.length (by simp [DataW.weights])
  rw [Array.length_toList] at this
  exact this

end Go.Proofs.YteklmgmhkmdddaaDoor.O

namespace Go.Proofs.YteklmgmhkmdddaaDoor.H
open Go.ChangeShapes Go.WideShapes Go.Deep Go.Proofs.YteklmgmhkmdddaaDoorW.PrintWords Go.Proofs.YteklmgmhkmdddaaDoor.F

theorem cells2 : Tryd.prog.cellsOf 2 = 1 := by kernel_rfl
theorem cells4 : Tryd.prog.cellsOf 4 = 1 := by kernel_rfl
theorem cells9 : Tryd.prog.cellsOf 9 = 1 := by kernel_rfl
theorem cells23 : Tryd.prog.cellsOf 23 = 1 := by kernel_rfl
theorem cells25 : Tryd.prog.cellsOf 25 = 4 := by kernel_rfl
theorem open25 {H : Type} {enc : TypeId × Value → H} {W : World} {base b0 : Nat} {r : Reach} {spare : Nat → Bool} {held : Bool} {v : Value} {d : DataW H} {p : List MemPlace} (hv : Value.okWide Tryd.prog W r b0 25 v) (h : DataW.Trod enc Tryd.prog W base spare held 25 v d p) (hw : ∀ n ∈ d.weights Tryd.prog 25, n ≤ reachBytes) :
    ∃ (a0 : Int) (a1 : Bool) (a2 : Int) (a3 : ByteArray), v = .agg #[.int .u8 a0, .bool a1, .int .i64 a2, .string a3] ∧ (Lit.int .u8 a0).wf = true ∧ True ∧ (Lit.int .i64 a2).wf = true ∧ a3.size ≤ 140737488351232 := by
  obtain ⟨cs, rfl, hsz⟩ := okWide_struct Tryd.underlying25 hv
  rw [cells25] at hsz
  obtain ⟨l⟩ := cs
  obtain ⟨c0, c1, c2, c3, rfl⟩ : ∃ c0 c1 c2 c3, l = [c0, c1, c2, c3] := by
    match l, hsz with
    | [c0, c1, c2, c3], _ => exact ⟨c0, c1, c2, c3, rfl⟩
  obtain ⟨fuel, hf⟩ := h
  obtain ⟨ys, n, _, hd, _, hyl, hg⟩ := DataW.trod_struct Tryd.underlying25 hf
  obtain ⟨y0, y1, y2, y3, rfl⟩ : ∃ y0 y1 y2 y3, ys = [y0, y1, y2, y3] := by
    match ys, hyl with
    | [y0, y1, y2, y3], _ => exact ⟨y0, y1, y2, y3, rfl⟩
  obtain ⟨rfl, rfl⟩ := Prod.mk.inj hd
  have f0 := hg 0 { name := "Sort", type := 23, offset := 0, embedded := false, tag := "", pkgPath := "", byteOffset := 0 } rfl
  have f1 := hg 1 { name := "Bool", type := 4, offset := 1, embedded := false, tag := "", pkgPath := "", byteOffset := 1 } rfl
  have f2 := hg 2 { name := "Int", type := 2, offset := 2, embedded := false, tag := "", pkgPath := "", byteOffset := 8 } rfl
  have f3 := hg 3 { name := "Text", type := 9, offset := 3, embedded := false, tag := "", pkgPath := "", byteOffset := 16 } rfl
  simp only [Value.cells, cells2, cells4, cells9, cells23, List.drop_zero, List.drop_succ_cons, List.take_succ_cons, List.take_zero, List.getElem?_cons_zero, List.getElem?_cons_succ] at f0 f1 f2 f3
  have hq : ∀ (j : Nat) (t : TypeId) (d : DataW H), [23, 4, 2, 9][j]? = some t → [y0.1, y1.1, y2.1, y3.1][j]? = some d → ∀ n ∈ d.weights Tryd.prog t, n ≤ reachBytes := by
    intro j t d h1 h2 q hq
    refine hw q ?_
    simp only [DataW.weights, Tryd.underlying25]
    exact DataW.weights_mem_each (j := j) h1 h2 q hq
  obtain ⟨a0, e0, w0⟩ := O.opens_int Tryd.underlying23 f0 (hq 0 _ _ rfl rfl)
  obtain rfl : c0 = .int .u8 a0 := (List.cons.inj e0).1
  obtain ⟨a1, e1, w1⟩ := O.opens_bool Tryd.underlying4 f1 (hq 1 _ _ rfl rfl)
  obtain rfl : c1 = .bool a1 := (List.cons.inj e1).1
  obtain ⟨a2, e2, w2⟩ := O.opens_int Tryd.underlying2 f2 (hq 2 _ _ rfl rfl)
  obtain rfl : c2 = .int .i64 a2 := (List.cons.inj e2).1
  obtain ⟨a3, e3, w3⟩ := O.opens_string Tryd.underlying9 f3 (hq 3 _ _ rfl rfl)
  obtain rfl : c3 = .string a3 := (List.cons.inj e3).1
  exact ⟨a0, a1, a2, a3, rfl, w0, w1, w2, w3⟩
end Go.Proofs.YteklmgmhkmdddaaDoor.H

-- The table 'signs' as the row's condition lays it
namespace Go.Proofs.YteklmgmhkmdddaaDoor.H
open Go.ChangeShapes Go.WideShapes Go.ChangeAt Go.RowKit Go.Proofs.YteklmgmhkmdddaaDoor.S
set_option linter.unusedVariables false
set_option linter.unusedSimpArgs false

theorem gSigns : Tryd.prog.globalNamed "moniker/consts.signs" = some 0 := by kernel_rfl
theorem tSigns : (Tryd.prog.globals[0]?).map (·.type) = some 60 := by kernel_rfl
def lookB (l : List (DataW Unit)) (j : Nat) : Option Bool := match l[j]? with | some (.lit (.bool b)) => some b | _ => none
def look (d : DataW Unit) (op j : Nat) : Option Bool := match d with | .agg l => (match l[op]? with | some (.agg m) => lookB m j | _ => none) | _ => none
def lookOk : Bool := (List.range 80).all fun op => (List.range 3).all fun j => look Rows.laid_moniker_consts_signs op j == some (sgB (op : Int) (j : Int))
theorem look_ok : lookOk = true := by kernel_rfl
theorem look_at (op j : Nat) (h : op < 80) (hj : j < 3) : look Rows.laid_moniker_consts_signs op j = some (sgB (op : Int) (j : Int)) := by
  have h1 := List.all_eq_true.1 look_ok op (List.mem_range.2 h)
  have h2 := List.all_eq_true.1 h1 j (List.mem_range.2 hj)
  exact beq_iff_eq.1 h2
theorem sgc59 : Tryd.prog.cellsOf 59 = 3 := by kernel_rfl
theorem sgc4 : Tryd.prog.cellsOf 4 = 1 := by kernel_rfl
theorem sg_of_laid {W : World} (h : laidMetH Tryd.prog [("moniker/consts.signs", Rows.laid_moniker_consts_signs)] W) : SG W := by
  rw [MakeChecks.laidMetH_plain _ _ _ (by kernel_rfl)] at h
  obtain ⟨ps, ⟨g0, t0, cs0, f0, p0, q0, hg0, ht0, hv0, hd0, _, _⟩, _, _⟩ := h
  obtain rfl := Option.some.inj (gSigns.symm.trans hg0)
  obtain rfl := Option.some.inj (tSigns.symm.trans ht0)
  obtain ⟨xs, m1, rfl, hx1, hlen, hn, hel⟩ := DataW.trod_array Tryd.underlying60 hd0
  simp only [Prod.mk.injEq] at hx1
  intro op j hop hj
  have e1 := hel op hop
  rw [List.getElem?_eq_getElem (by omega), sgc59] at e1
  obtain ⟨ys, m2, rfl, hy, hlen2, hn2, hel2⟩ := DataW.trod_array Tryd.underlying59 e1
  have e2 := hel2 j hj
  rw [List.getElem?_eq_getElem (by omega), sgc4] at e2
  obtain ⟨b, eb, ey⟩ := DataW.trod_bool Tryd.underlying4 e2
  have hb : look Rows.laid_moniker_consts_signs op j = some b := by
    rw [hx1.1]
    have a1 : (xs.map (·.1))[op]? = some (DataW.agg (ys.map (·.1))) := by
      rw [List.getElem?_map, List.getElem?_eq_getElem (by omega), hy]
      rfl
    have a2 : (ys.map (·.1))[j]? = some (DataW.lit (.bool b)) := by
      rw [List.getElem?_map, List.getElem?_eq_getElem (by omega), ey]
      rfl
    unfold look lookB
    simp only [a1, a2]
  rw [look_at op j hop hj] at hb
  have hcell := World.var?_cell hg0 hv0 (op * 3 + j)
  rw [hcell]
  have hc : cs0.toList[op * 3 + j]? = some (.bool b) := by
    have e3 : ((cs0.toList.drop (op * 3)).take 3).drop (j * 1) = ((cs0.toList.drop (op * 3)).take 3).drop j := by rw [Nat.mul_one]
    rw [e3] at eb
    have e4 : (((cs0.toList.drop (op * 3)).take 3).drop j)[0]? = some (.bool b) := by
      have : ((((cs0.toList.drop (op * 3)).take 3).drop j).take 1)[0]? = some (.bool b) := by rw [eb]; rfl
      rwa [List.getElem?_take_of_lt (by omega)] at this
    rw [List.getElem?_drop, List.getElem?_take_of_lt (by omega), List.getElem?_drop] at e4
    simpa using e4
  rw [← Option.some.inj hb] at hc
  simpa using hc
end Go.Proofs.YteklmgmhkmdddaaDoor.H

-- The law ConstOrder's walk: printed; what it computes is true
namespace Go.Proofs.YteklmgmhkmdddaaDoor.L
open Go.RowKit Go.Proofs.YteklmgmhkmdddaaDoor.S Go.Proofs.YteklmgmhkmdddaaDoorW.PrintWords Go.Proofs.YteklmgmhkmdddaaDoorW.PrintLast
set_option linter.unusedVariables false
theorem in64o {n : Int} (h : (Lit.int .i64 n).wf = true) : Q.In64 n := by
  have := bounds_i64 h
  exact ⟨by omega, by omega⟩
theorem order_walk (s : Int) (b : Bool) (n : Int) (t : ByteArray) (s' : Int) (b' : Bool) (n' : Int) (t' : ByteArray) (s'' : Int) (b'' : Bool) (n'' : Int) (t'' : ByteArray) (w : World) (_ : (Lit.int .u8 s).wf = true) (hn : (Lit.int .i64 n).wf = true) (ht : t.size ≤ 140737488351232)
    (_ : (Lit.int .u8 s').wf = true) (hn' : (Lit.int .i64 n').wf = true) (ht' : t'.size ≤ 140737488351232) (_ : (Lit.int .u8 s'').wf = true) (_ : (Lit.int .i64 n'').wf = true) (_ : t''.size ≤ 140737488351232) (hs : SG w) :
    Calls Tryd.prog 5 #[.agg #[.int .u8 s, .bool b, .int .i64 n, .string t], .agg #[.int .u8 s', .bool b', .int .i64 n', .string t'], .agg #[.int .u8 s'', .bool b'', .int .i64 n'', .string t'']] w fun e w' => e = .returned (.bool true) ∧ Below w.heap.size w w' :=
  monikerlaw8_ConstOrder.calls 8 s b n t s' b' n' t' s'' b'' n'' t'' true w (Q.order_is s b n t s' b' n' t' s'' b'' n'' t'' (in64o hn) (in64o hn') (by omega)) hs
end Go.Proofs.YteklmgmhkmdddaaDoor.L
