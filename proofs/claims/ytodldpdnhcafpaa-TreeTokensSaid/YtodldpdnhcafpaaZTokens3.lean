/- The law TreeTokens of package monikerlaw holds of the given program: called with any arguments that can be read as data it returns true, and its arguments read behind the call as before. Conditions: those of the given row, no others. -/
import Derived.Test.YtodldpdnhcafpaaZTokens2
import Derived.Test.YtodldpdnhcafpaaWMore
import Derived.SizedLaws
import Derived.ChangeSlices
import Derived.Deep.Slices
import Derived.ChangeArms
import Derived.Test.YtodldpdnhcafpaaRows
import Derived.WalkKit
import Derived.ProofKit
import Derived.OpenShut
import Derived.ShutString
import Derived.ChangeOld
import Derived.Below
-- A text of this session's own program (wip/myprint.sh over a changed print tool): functions and their walks
namespace Go.Proofs.Ytodldpdnhcafpaa.F
open Go.RowKit Go.Proofs.YtodldpdnhcafpaaW.PrintWords Go.Proofs.YtodldpdnhcafpaaW.PrintLast Go.Proofs.YtodldpdnhcafpaaW.PrintMore
attribute [local go_sem] max2_int min2_int max_two min_two max_three min_three max_four min_four   -- for this text's walks alone
set_option linter.unusedVariables false
set_option linter.unusedSimpArgs false

/-! ### monikerlaw4_TreeTokens: function 15 -/
mutual
def monikerlaw4_TreeTokens.l0 : Nat → List Int → Int → Int → ByteArray → List (S61) → List (S47) → List (S47) → Option (Bool)
  | 0, _, _, _, _, _, _, _ => none
  | k + 1, x4, x32, x33, x325000, x325001, x325002, x326000 => if x33 < x32 then ((tree_Own.f k x325001 x326000 x33).bind fun t331 => (monikerlaw4_TreeTokens.l1 k x4 x33 (-1) x32 x33 t331 (t331.length : Int) 0 x325000 x325001 x325002 x326000)) else (monikerlaw4_TreeTokens.l2 k x4 x325001 (x325001.length : Int) 0 x326000)
def monikerlaw4_TreeTokens.l1 : Nat → List Int → Int → Int → Int → Int → List Int → Int → Int → ByteArray → List (S61) → List (S47) → List (S47) → Option (Bool)
  | 0, _, _, _, _, _, _, _, _, _, _, _, _ => none
  | k + 1, x4, x5, x6, x32, x33, x40, x41, x42, x325000, x325001, x325002, x326000 => if x42 < x41 then (if 0 ≤ x42 then (if x42 < (x40.length : Int) then (if (rd x40 x42) ≤ x6 then (some false) else (if 0 ≤ x5 then (if x5 < (x326000.length : Int) then (if (rd x40 x42) < ((rd_T47 x326000 x5).f1) then (some false) else (if (rd x40 x42) ≥ ((rd_T47 x326000 x5).f2) then (some false) else (if 0 ≤ (rd x40 x42) then (if (rd x40 x42) < (x4.length : Int) then (monikerlaw4_TreeTokens.l1 k (x4.set ((rd x40 x42) : Int).toNat (wrap64 ((rd x4 (rd x40 x42)) + 1))) x5 (rd x40 x42) x32 x33 x40 x41 (wrap64 (x42 + 1)) x325000 x325001 x325002 x326000) else (none)) else (none)))) else (none)) else (none))) else (none)) else (none)) else (monikerlaw4_TreeTokens.l0 k x4 x32 (wrap64 (x33 + 1)) x325000 x325001 x325002 x326000)
def monikerlaw4_TreeTokens.l2 : Nat → List Int → List (S61) → Int → Int → List (S47) → Option (Bool)
  | 0, _, _, _, _, _ => none
  | k + 1, x4, x79, x80, x81, x326000 => if x81 < x80 then (if 0 ≤ x81 then (if x81 < (x79.length : Int) then (if ((rd_T61 x79 x81).f0) = 0 then (monikerlaw4_TreeTokens.j3 k x4 x81 1 x79 x80 x81 true x326000) else (if ((rd_T61 x79 x81).f0) = 1 then (monikerlaw4_TreeTokens.j3 k x4 x81 1 x79 x80 x81 true x326000) else (if 0 < (x326000.length : Int) then (if x81 < ((rd_T47 x326000 0).f1) then (monikerlaw4_TreeTokens.j3 k x4 x81 1 x79 x80 x81 true x326000) else (monikerlaw4_TreeTokens.j3 k x4 x81 1 x79 x80 x81 (decide (x81 ≥ ((rd_T47 x326000 0).f2))) x326000)) else (none)))) else (none)) else (none)) else (some true)
def monikerlaw4_TreeTokens.j3 : Nat → List Int → Int → Int → List (S61) → Int → Int → Bool → List (S47) → Option (Bool)
  | 0, _, _, _, _, _, _, _, _ => none
  | k + 1, x4, x9, x11, x79, x80, x81, x111, x326000 => if x111 = true then (if 0 ≤ x9 then (if x9 < (x4.length : Int) then (if (rd x4 x9) = 0 then (monikerlaw4_TreeTokens.l2 k x4 x79 x80 (wrap64 (x81 + 1)) x326000) else (some false)) else (none)) else (none)) else (if 0 ≤ x9 then (if x9 < (x4.length : Int) then (if (rd x4 x9) = x11 then (monikerlaw4_TreeTokens.l2 k x4 x79 x80 (wrap64 (x81 + 1)) x326000) else (some false)) else (none)) else (none))
end
def monikerlaw4_TreeTokens.f (k : Nat) (a0_0 : ByteArray) (l0_1 : List (S61)) (l0_2 : List (S47)) : Option (Bool) := (monikerref4_Valid.f k l0_2 (l0_1.length : Int)).bind fun t326 => (if t326 = true then (if 0 ≤ (l0_1.length : Int) then (if ((l0_1.length : Int) : Int).toNat ≤ 35184372088832 then (monikerlaw4_TreeTokens.l0 k (List.replicate ((l0_1.length : Int) : Int).toNat 0) (l0_2.length : Int) 0 a0_0 l0_1 l0_2 l0_2) else (none)) else (none)) else ((tree_Valid.f k l0_2 (l0_1.length : Int)).bind fun t327 => (some (!t327))))
set_option maxHeartbeats 8000000 in
set_option maxRecDepth 100000 in
theorem monikerlaw4_TreeTokens.calls (k : Nat) (a0_0 : ByteArray) (A0_1 : Option Addr) (c0_1 : Nat) (l0_1 : List (S61)) (A0_2 : Option Addr) (c0_2 : Nat) (l0_2 : List (S47)) (r : Bool) (w : World) (hr0_1 : Kd.C k61 w A0_1 l0_1.length l0_1) (hc0_1 : l0_1.length ≤ c0_1) (hr0_2 : Kd.C k47 w A0_2 l0_2.length l0_2) (hc0_2 : l0_2.length ≤ c0_2) (h : monikerlaw4_TreeTokens.f k a0_0 l0_1 l0_2 = some r) :
    Calls Try.prog 15 #[.agg #[.string a0_0, .slice A0_1 l0_1.length c0_1, .slice A0_2 l0_2.length c0_2]] w fun e w' => e = .returned (.bool r) ∧ Below w.heap.size w w' := by
  have hu27 := Try.underlying27
  have hu25 := Try.underlying25
  have hu61 := Try.underlying61
  have HR0_1 := Aside0.mk hr0_1
  have HC0_1 := Aside0.mk hc0_1
  clear hr0_1 hc0_1
  have HR0_2 := Aside0.mk hr0_2
  have HC0_2 := Aside0.mk hc0_2
  clear hr0_2 hc0_2
  have HB := Aside0.mk (Below.refl w.heap.size w)
  have H : ((monikerref4_Valid.f k l0_2 (l0_1.length : Int)).bind fun t326 => (if t326 = true then (if 0 ≤ (l0_1.length : Int) then (if ((l0_1.length : Int) : Int).toNat ≤ 35184372088832 then (monikerlaw4_TreeTokens.l0 k (List.replicate ((l0_1.length : Int) : Int).toNat 0) (l0_2.length : Int) 0 a0_0 l0_1 l0_2 l0_2) else (none)) else (none)) else ((tree_Valid.f k l0_2 (l0_1.length : Int)).bind fun t327 => (some (!t327))))) = some r := h
  clear h
  replace H := Option.bind_eq_some_iff.mp H
  obtain ⟨t326, A20, H⟩ := H
  replace H : (if t326 = true then (if 0 ≤ (l0_1.length : Int) then (if ((l0_1.length : Int) : Int).toNat ≤ 35184372088832 then (monikerlaw4_TreeTokens.l0 k (List.replicate ((l0_1.length : Int) : Int).toNat 0) (l0_2.length : Int) 0 a0_0 l0_1 l0_2 l0_2) else (none)) else (none)) else ((tree_Valid.f k l0_2 (l0_1.length : Int)).bind fun t327 => (some (!t327)))) = some r := H
  have A2 := Aside0.mk A20
  clear A20
  by_cases c3 : t326 = true
  · subst c3
    have H1 : (if 0 ≤ (l0_1.length : Int) then (if ((l0_1.length : Int) : Int).toNat ≤ 35184372088832 then (monikerlaw4_TreeTokens.l0 k (List.replicate ((l0_1.length : Int) : Int).toNat 0) (l0_2.length : Int) 0 a0_0 l0_1 l0_2 l0_2) else (none)) else (none)) = some r := by rw [if_pos rfl] at H; exact H
    clear H
    have H := H1
    clear H1
    by_cases c4 : 0 ≤ (l0_1.length : Int)
    · rw [if_pos c4] at H
      have c4b0 := eq_true c4
      have c4b1 : decide (0 ≤ (l0_1.length : Int)) = true := decide_eq_true c4
      clear c4
      by_cases c5 : ((l0_1.length : Int) : Int).toNat ≤ 35184372088832
      · rw [if_pos c5] at H
        have c5b0 := eq_true c5
        have c5b1 : decide (((l0_1.length : Int) : Int).toNat ≤ 35184372088832) = true := decide_eq_true c5
        clear c5
        obtain ⟨y328, hy328⟩ : ∃ y_ : List Int, y_ = (List.replicate ((l0_1.length : Int) : Int).toNat 0) := ⟨_, rfl⟩
        replace H : (monikerlaw4_TreeTokens.l0 k y328 (l0_2.length : Int) 0 a0_0 l0_1 l0_2 l0_2) = some r := by first | (rw [hy328]; with_reducible exact H) | (have H2_ := (Option.bind_some _ _).symm.trans H; rw [hy328]; with_reducible exact H2_) | (have H2_ := (Option.bind_some _ _).symm.trans H; with_reducible exact H2_) | with_reducible exact H | (rw [hy328]; exact H) | exact H
        have Ny328 := Aside0.mk hy328
        clear hy328
        have H' := Aside0.mk H
        clear H
        go_enter Try.func15, Try.ntmps15
        go_wp2_with (first | ((with_reducible refine gate_dst (N := 1) rfl ?_); refine box_event ?hg (N := 1) ?hd (cs := #[.string a0_0, .slice A0_1 l0_1.length c0_1, .slice A0_2 l0_2.length c0_2]) (t := 27) ?hr ?_; (case hd => rfl); (case hg => rfl); (case hr => first | (go_simp; done) | (go_simp; rfl)); intro gb324 hg w6 hbox hb; have n0_ := Aside0.mk (below_step (by repeat (first | (with_reducible first | exact HB.out | apply below_alloc | apply pw_below_drewN | apply below_drew1) | exact HB.out)) hb); have n1_ := Aside0.mk (hbox); have n2_ := Aside0.mk ((by rw [hg]; exact (below_size (by repeat (first | (with_reducible first | exact HB.out | apply below_alloc | apply pw_below_drewN | apply below_drew1) | exact HB.out))) : w.heap.size ≤ gb324)); have n3_ := Aside0.mk ((by rw [hg]; exact (below_size (by repeat (first | (with_reducible first | exact HB.out | apply below_alloc | apply pw_below_drewN | apply below_drew1) | exact HB.out))) : w.heap.size ≤ gb324)); clear HB; have HB := n0_; have BK324 := n1_; have GW324 := n2_; have GE324 := n3_; clear n0_ n1_ n2_ n3_; clear hb hbox hg; have hcz7_0 : w6.cell? ⟨gb324, 0, none⟩ = some (.string a0_0) := (blk_cell BK324.out 0).trans rfl; have hcz7_1 : w6.cell? ⟨gb324, 1, none⟩ = some (.slice A0_1 l0_1.length c0_1) := (blk_cell BK324.out 1).trans rfl; have hcz7_2 : w6.cell? ⟨gb324, 2, none⟩ = some (.slice A0_2 l0_2.length c0_2) := (blk_cell BK324.out 2).trans rfl; have hfz7_0 := blk_frozen BK324.out 0; have hfz7_1 := blk_frozen BK324.out 1; have hfz7_2 := blk_frozen BK324.out 2) | ((with_reducible refine gate_dst (N := 3) rfl ?_); refine box_event ?hg (N := 3) ?hd (cs := #[.slice none 0 0]) (t := 25) ?hr ?_; (case hd => rfl); (case hg => rfl); (case hr => first | (go_simp; done) | (go_simp; rfl)); intro gb325 hg w8 hbox hb; have n0_ := Aside0.mk (blk_below (g := gb324) (o := .cells #[.string a0_0, .slice A0_1 l0_1.length c0_1, .slice A0_2 l0_2.length c0_2] 27 (0, 0)) (by (with_reducible repeat (first | refine blk_drewN ?_ _ | refine blk_drew ?_ | refine blk_alloc ?_ _)); exact BK324.out) hb); have n1_ := Aside0.mk (below_step (by repeat (first | (with_reducible first | exact HB.out | apply below_alloc | apply pw_below_drewN | apply below_drew1 | refine below_set ?_ GE324.out) | exact HB.out)) hb); have n2_ := Aside0.mk (hbox); have n3_ := Aside0.mk ((by rw [hg]; exact (below_size (by repeat (first | (with_reducible first | exact HB.out | apply below_alloc | apply pw_below_drewN | apply below_drew1 | refine below_set ?_ GE324.out) | exact HB.out))) : w.heap.size ≤ gb325)); have n4_ := Aside0.mk ((by rw [hg]; exact (below_size (by repeat (first | (with_reducible first | exact HB.out | apply below_alloc | apply pw_below_drewN | apply below_drew1 | refine below_set ?_ GE324.out) | exact HB.out))) : w.heap.size ≤ gb325)); have n5_ := Aside0.mk ((by rw [hg]; exact Nat.ne_of_lt (blk_lt (g := gb324) (o := .cells #[.string a0_0, .slice A0_1 l0_1.length c0_1, .slice A0_2 l0_2.length c0_2] 27 (0, 0)) (by (with_reducible repeat (first | refine blk_drewN ?_ _ | refine blk_drew ?_ | refine blk_alloc ?_ _)); exact BK324.out)) : gb324 ≠ gb325)); have n6_ := Aside0.mk ((by rw [hg]; exact Nat.ne_of_gt (blk_lt (g := gb324) (o := .cells #[.string a0_0, .slice A0_1 l0_1.length c0_1, .slice A0_2 l0_2.length c0_2] 27 (0, 0)) (by (with_reducible repeat (first | refine blk_drewN ?_ _ | refine blk_drew ?_ | refine blk_alloc ?_ _)); exact BK324.out)) : gb325 ≠ gb324)); clear BK324; clear HB; have BK324 := n0_; have HB := n1_; have BK325 := n2_; have GW325 := n3_; have GE325 := n4_; have NB324_325 := n5_; have NB325_324 := n6_; clear n0_ n1_ n2_ n3_ n4_ n5_ n6_; clear hb hbox hg; have hnb9 := NB325_324.out; have hnc9 := NB324_325.out; have hcz10_0 : w8.cell? ⟨gb325, 0, none⟩ = some (.slice none 0 0) := (blk_cell BK325.out 0).trans rfl; have hfz10_0 := blk_frozen BK325.out 0; have hcz11_0 : w8.cell? ⟨gb324, 0, none⟩ = some (.string a0_0) := (blk_cell BK324.out 0).trans rfl; have hcz11_1 : w8.cell? ⟨gb324, 1, none⟩ = some (.slice A0_1 l0_1.length c0_1) := (blk_cell BK324.out 1).trans rfl; have hcz11_2 : w8.cell? ⟨gb324, 2, none⟩ = some (.slice A0_2 l0_2.length c0_2) := (blk_cell BK324.out 2).trans rfl; have hfz11_0 := blk_frozen BK324.out 0; have hfz11_1 := blk_frozen BK324.out 1; have hfz11_2 := blk_frozen BK324.out 2) | ((with_reducible refine gate_callee (f := 42) rfl ?_); refine goesL_ (some 18) rfl rfl Try.func42 (by kernel_rfl) rfl #[.agg #[.slice A0_2 l0_2.length c0_2], .int .i64 (l0_1.length : Int)] rfl (by (try simp only [List.map_toArray, List.map_cons, List.map_nil]); first | done | rfl | (simp only [List.length_drop, List.length_take]; rfl)) ?_; (with_reducible refine (monikerref4_Valid.calls k _ _ l0_2 (l0_1.length : Int) true _ ?side1 ?side2 A2.out).mono ?_); (case side1 => exact Kd.C_below HR0_2.out (by repeat (first | (with_reducible first | exact HB.out | apply below_alloc | apply pw_below_drewN | apply below_drew1 | refine below_set ?_ GE324.out | refine below_set ?_ GE325.out) | exact HB.out))); (case side2 => exact HC0_2.out); rintro e w12 ⟨rfl, hb⟩; refine ⟨_, rfl, ?_⟩; have n0_ := Aside0.mk (blk_below (g := gb324) (o := .cells #[.string a0_0, .slice A0_1 l0_1.length c0_1, .slice A0_2 l0_2.length c0_2] 27 (0, 0)) (by (with_reducible repeat (first | refine blk_drewN ?_ _ | refine blk_drew ?_ | refine blk_alloc ?_ _)); refine blk_far ?_ NB324_325.out _; (with_reducible repeat (first | refine blk_drewN ?_ _ | refine blk_drew ?_ | refine blk_alloc ?_ _)); exact BK324.out) hb); have n1_ := Aside0.mk (blk_below (g := gb325) (o := .cells #[.slice A0_2 l0_2.length c0_2] 25 (0, 0)) (by (with_reducible repeat (first | refine blk_drewN ?_ _ | refine blk_drew ?_ | refine blk_alloc ?_ _)); refine blk_put (cs := #[.slice none 0 0]) ?_ 0 _ rfl; (with_reducible repeat (first | refine blk_drewN ?_ _ | refine blk_drew ?_ | refine blk_alloc ?_ _)); exact BK325.out) hb); have n2_ := Aside0.mk (below_step (by repeat (first | (with_reducible first | exact HB.out | apply below_alloc | apply pw_below_drewN | apply below_drew1 | refine below_set ?_ GE324.out | refine below_set ?_ GE325.out) | exact HB.out)) hb); clear BK324; clear BK325; clear HB; have BK324 := n0_; have BK325 := n1_; have HB := n2_; clear n0_ n1_ n2_; (try clear hb); (try clear hb2); (try clear hk); (try clear hi); have hcz13_0 : w12.cell? ⟨gb324, 0, none⟩ = some (.string a0_0) := (blk_cell BK324.out 0).trans rfl; have hcz13_1 : w12.cell? ⟨gb324, 1, none⟩ = some (.slice A0_1 l0_1.length c0_1) := (blk_cell BK324.out 1).trans rfl; have hcz13_2 : w12.cell? ⟨gb324, 2, none⟩ = some (.slice A0_2 l0_2.length c0_2) := (blk_cell BK324.out 2).trans rfl; have hfz13_0 := blk_frozen BK324.out 0; have hfz13_1 := blk_frozen BK324.out 1; have hfz13_2 := blk_frozen BK324.out 2) | ((with_reducible refine gate_dst (N := 29) rfl ?_); refine Kd.R_make (Kd.int .i64) _ 3 rfl (N := 29) rfl 33 _ _ rfl (l0_1.length : Int) rfl rfl Try.underlying33 (.int .i64 0) 8 info3 rfl (by decide) (by omega) 0 (ok := fun _ => True) (okp := fun _ => True) rfl (fun _ hk => hk) trivial (of_decide_eq_true (by first | (with_reducible assumption) | assumption)) (Nat.le_trans (Nat.mul_le_mul_right _ (of_decide_eq_true (by first | (with_reducible assumption) | assumption) : (l0_1.length : Int).toNat ≤ 35184372088832)) (by omega)) (Below.refl _ _) (Nat.le_refl _) ?_; intro v329 w14 ho15 hb hg_ hnew_; clear hg_ hnew_; (first | rw [← Ny328.out] at ho15 | (simp only [Int.reduceToNat] at ho15; rw [← Ny328.out] at ho15)); have n0_ := Aside0.mk (Kd.R_lower ho15 (below_size (by repeat (first | (with_reducible first | exact HB.out | apply below_alloc | apply pw_below_drewN | apply below_drew1 | refine below_set ?_ GE324.out | refine below_set ?_ GE325.out) | exact HB.out)))); have n1_ := Aside0.mk (blk_below (g := gb324) (o := .cells #[.string a0_0, .slice A0_1 l0_1.length c0_1, .slice A0_2 l0_2.length c0_2] 27 (0, 0)) (by (with_reducible repeat (first | refine blk_drewN ?_ _ | refine blk_drew ?_ | refine blk_alloc ?_ _)); exact BK324.out) hb); have n2_ := Aside0.mk (blk_below (g := gb325) (o := .cells #[.slice A0_2 l0_2.length c0_2] 25 (0, 0)) (by (with_reducible repeat (first | refine blk_drewN ?_ _ | refine blk_drew ?_ | refine blk_alloc ?_ _)); exact BK325.out) hb); have n3_ := Aside0.mk (below_step (by repeat (first | (with_reducible first | exact HB.out | apply below_alloc | apply pw_below_drewN | apply below_drew1 | refine below_set ?_ GE324.out | refine below_set ?_ GE325.out) | exact HB.out)) hb); clear BK324; clear BK325; clear HB; have HO330 := n0_; have BK324 := n1_; have BK325 := n2_; have HB := n3_; clear n0_ n1_ n2_ n3_; clear hb ho15; have hcz16_0 : w14.cell? ⟨gb325, 0, none⟩ = some (.slice A0_2 l0_2.length c0_2) := (blk_cell BK325.out 0).trans rfl; have hfz16_0 := blk_frozen BK325.out 0))
        go_loopg [33] k (fun kq v33 w' => ∃ (x4_1 : List Int) (x33_1 : Int), v33 = .int .i64 x33_1 ∧ Aside0 (monikerlaw4_TreeTokens.l0 kq x4_1 (l0_2.length : Int) x33_1 a0_0 l0_1 l0_2 l0_2 = some r) ∧ Aside0 (kq ≤ k) ∧ Aside0 (Kd.R (Kd.int .i64) 3 w' w.heap.size (fun _ => True) v329 x4_1) ∧ Aside0 (w'.heap[gb324]? = some (.cells #[.string a0_0, (.slice A0_1 l0_1.length c0_1), (.slice A0_2 l0_2.length c0_2)] 27 (0, 0))) ∧ Aside0 (w'.heap[gb325]? = some (.cells #[(.slice A0_2 l0_2.length c0_2)] 25 (0, 0))) ∧ Aside0 (Below w.heap.size w w'))
        case atStart => exact ⟨(y328), (0), (by first | rfl | (simp; done) | (simp [*]; done)), H', ⟨Nat.le_refl _⟩, ⟨by (with_reducible repeat (first | apply Kd.R_alloc | apply Kd.R_drewN | apply Kd.R_drew)); exact HO330.out⟩, ⟨by (with_reducible repeat (first | refine blk_drewN ?_ _ | refine blk_drew ?_ | refine blk_alloc ?_ _)); exact BK324.out⟩, ⟨by (with_reducible repeat (first | refine blk_drewN ?_ _ | refine blk_drew ?_ | refine blk_alloc ?_ _)); exact BK325.out⟩, ⟨by repeat (first | (with_reducible first | exact HB.out | apply below_alloc | apply pw_below_drewN | apply below_drew1 | refine below_set ?_ GE324.out | refine below_set ?_ GE325.out) | exact HB.out)⟩⟩
        case round =>
          clear H'
          try clear c1
          try clear p2
          try clear c3
          try clear c4
          try clear c4b0
          try clear c4b1
          try clear c5
          try clear c5b0
          try clear c5b1
          try clear c9
          try clear c15
          try clear hcz10_0
          try clear hcz11_0
          try clear hcz11_1
          try clear hcz11_2
          try clear hcz13_0
          try clear hcz13_1
          try clear hcz13_2
          try clear hcz16_0
          try clear hcz7_0
          try clear hcz7_1
          try clear hcz7_2
          try clear hfz10_0
          try clear hfz11_0
          try clear hfz11_1
          try clear hfz11_2
          try clear hfz13_0
          try clear hfz13_1
          try clear hfz13_2
          try clear hfz16_0
          try clear hfz7_0
          try clear hfz7_1
          try clear hfz7_2
          obtain ⟨x4_1, x33_1, rfl, HA, HK1, HO_4, BK324, BK325, HB⟩ := hrel
          cases gk with
          | zero => exact absurd HA.out (by simp [monikerlaw4_TreeTokens.l0])
          | succ k1 =>
            have H := HA.out
            clear HA
            simp only [monikerlaw4_TreeTokens.l0] at H
            by_cases c17 : x33_1 < (l0_2.length : Int)
            · rw [if_pos c17] at H
              have c17b0 : decide (x33_1 < (l0_2.length : Int)) = true := decide_eq_true c17
              clear c17
              replace H := Option.bind_eq_some_iff.mp H
              obtain ⟨t331, A180, H⟩ := H
              replace H : (monikerlaw4_TreeTokens.l1 k1 x4_1 x33_1 (-1) (l0_2.length : Int) x33_1 t331 (t331.length : Int) 0 a0_0 l0_1 l0_2 l0_2) = some r := H
              have A18 := Aside0.mk A180
              clear A180
              have H' := Aside0.mk H
              clear H
              have hnb19 := NB324_325.out
              have hnc19 := NB325_324.out
              have hcz20_0 : wr.cell? ⟨gb324, 0, none⟩ = some (.string a0_0) := (blk_cell BK324.out 0).trans rfl
              have hcz20_1 : wr.cell? ⟨gb324, 1, none⟩ = some (.slice A0_1 l0_1.length c0_1) := (blk_cell BK324.out 1).trans rfl
              have hcz20_2 : wr.cell? ⟨gb324, 2, none⟩ = some (.slice A0_2 l0_2.length c0_2) := (blk_cell BK324.out 2).trans rfl
              have hfz20_0 := blk_frozen BK324.out 0
              have hfz20_1 := blk_frozen BK324.out 1
              have hfz20_2 := blk_frozen BK324.out 2
              have hcz21_0 : wr.cell? ⟨gb325, 0, none⟩ = some (.slice A0_2 l0_2.length c0_2) := (blk_cell BK325.out 0).trans rfl
              have hfz21_0 := blk_frozen BK325.out 0
              go_wp2_with (first | ((with_reducible refine gate_callee (f := 39) rfl ?_); refine goesL_ (some 40) rfl rfl Try.func39 (by kernel_rfl) rfl #[.slice A0_1 l0_1.length c0_1, .agg #[.slice A0_2 l0_2.length c0_2], .int .i64 x33_1] rfl (by (try simp only [List.map_toArray, List.map_cons, List.map_nil]); first | done | rfl | (simp only [List.length_drop, List.length_take]; rfl)) ?_; (with_reducible refine (tree_Own.calls k1 _ _ l0_1 _ _ l0_2 x33_1 t331 _ ?side1 ?side2 ?side3 ?side4 A18.out).mono ?_); (case side1 => repeat (first | exact (Kd.C_below HR0_1.out HB.out) | (with_reducible refine Kd.C_alloc ?_ _) | (with_reducible refine Kd.C_drewN ?_ _) | (with_reducible refine Kd.C_drew ?_))); (case side2 => exact HC0_1.out); (case side3 => repeat (first | exact (Kd.C_below HR0_2.out HB.out) | (with_reducible refine Kd.C_alloc ?_ _) | (with_reducible refine Kd.C_drewN ?_ _) | (with_reducible refine Kd.C_drew ?_))); (case side4 => exact HC0_2.out); rintro e w22 ⟨v332, rfl, ho0, hb⟩; refine ⟨_, rfl, ?_⟩; have n0_ := Aside0.mk (Kd.R_elder' (by (with_reducible repeat (first | apply Kd.R_alloc | apply Kd.R_drewN | apply Kd.R_drew)); exact HO_4.out) (Kd.R_base ho0) hb); have n1_ := Aside0.mk (Kd.R_lower (Kd.R_new' ho0 (Kd.R_lt (by (with_reducible repeat (first | apply Kd.R_alloc | apply Kd.R_drewN | apply Kd.R_drew)); exact HO_4.out))) (below_size (by repeat (first | (with_reducible first | exact HB.out | apply below_alloc | apply pw_below_drewN | apply below_drew1 | refine below_set ?_ GE324.out | refine below_set ?_ GE325.out) | exact HB.out)))); have n2_ := Aside0.mk (blk_below (g := gb324) (o := .cells #[.string a0_0, .slice A0_1 l0_1.length c0_1, .slice A0_2 l0_2.length c0_2] 27 (0, 0)) (by (with_reducible repeat (first | refine blk_drewN ?_ _ | refine blk_drew ?_ | refine blk_alloc ?_ _)); exact BK324.out) hb); have n3_ := Aside0.mk (blk_below (g := gb325) (o := .cells #[.slice A0_2 l0_2.length c0_2] 25 (0, 0)) (by (with_reducible repeat (first | refine blk_drewN ?_ _ | refine blk_drew ?_ | refine blk_alloc ?_ _)); exact BK325.out) hb); have n4_ := Aside0.mk (below_step (by repeat (first | (with_reducible first | exact HB.out | apply below_alloc | apply pw_below_drewN | apply below_drew1 | refine below_set ?_ GE324.out | refine below_set ?_ GE325.out) | exact HB.out)) hb); clear HO_4; clear BK324; clear BK325; clear HB; have HO_4 := n0_; have HO333 := n1_; have BK324 := n2_; have BK325 := n3_; have HB := n4_; clear n0_ n1_ n2_ n3_ n4_; (try clear hb); (try clear hb2); (try clear hk); (try clear hi); (try clear ho0); obtain ⟨Ao23, co23, eo23⟩ := Kd.R_slice HO333.out; subst eo23))
              go_loopg [6, 42] k1 (fun kq v6 v42 w' => ∃ (x4_2 : List Int) (x6_2 : Int) (x42_2 : Int), v6 = .int .i64 x6_2 ∧ v42 = .int .i64 x42_2 ∧ Aside0 (monikerlaw4_TreeTokens.l1 kq x4_2 x33_1 x6_2 (l0_2.length : Int) x33_1 t331 (t331.length : Int) x42_2 a0_0 l0_1 l0_2 l0_2 = some r) ∧ Aside0 (kq ≤ k1) ∧ Aside0 (Kd.R (Kd.int .i64) 3 w' w.heap.size (fun k_ => some k_ ≠ ((.slice Ao23 t331.length co23) : Value).ownBlock) v329 x4_2) ∧ Aside0 (Kd.R (Kd.int .i64) 3 w' w.heap.size (fun k_ => some k_ ≠ (v329 : Value).ownBlock) (.slice Ao23 t331.length co23) t331) ∧ Aside0 (w'.heap[gb324]? = some (.cells #[.string a0_0, (.slice A0_1 l0_1.length c0_1), (.slice A0_2 l0_2.length c0_2)] 27 (0, 0))) ∧ Aside0 (w'.heap[gb325]? = some (.cells #[(.slice A0_2 l0_2.length c0_2)] 25 (0, 0))) ∧ Aside0 (Below w.heap.size w w'))
              case atStart => exact ⟨(x4_1), ((-1)), (0), (by first | rfl | (simp; done) | (simp [*]; done)), (by first | rfl | (simp; done) | (simp [*]; done)), H', ⟨Nat.le_refl _⟩, ⟨by (with_reducible repeat (first | apply Kd.R_alloc | apply Kd.R_drewN | apply Kd.R_drew)); exact Kd.R_mono HO_4.out (fun _ hk => hk.2)⟩, ⟨by (with_reducible repeat (first | apply Kd.R_alloc | apply Kd.R_drewN | apply Kd.R_drew)); exact Kd.R_mono HO333.out (fun _ hk => hk.2)⟩, ⟨by (with_reducible repeat (first | refine blk_drewN ?_ _ | refine blk_drew ?_ | refine blk_alloc ?_ _)); exact BK324.out⟩, ⟨by (with_reducible repeat (first | refine blk_drewN ?_ _ | refine blk_drew ?_ | refine blk_alloc ?_ _)); exact BK325.out⟩, ⟨by repeat (first | (with_reducible first | exact HB.out | apply below_alloc | apply pw_below_drewN | apply below_drew1 | refine below_set ?_ GE324.out | refine below_set ?_ GE325.out) | exact HB.out)⟩⟩
              case round =>
                clear H'
                try clear c1
                try clear p2
                try clear c3
                try clear c4
                try clear c4b0
                try clear c4b1
                try clear c5
                try clear c5b0
                try clear c5b1
                try clear c9
                try clear c15
                try clear c17
                try clear c17b0
                try clear c19
                try clear hcz10_0
                try clear hcz11_0
                try clear hcz11_1
                try clear hcz11_2
                try clear hcz13_0
                try clear hcz13_1
                try clear hcz13_2
                try clear hcz16_0
                try clear hcz20_0
                try clear hcz20_1
                try clear hcz20_2
                try clear hcz21_0
                try clear hcz7_0
                try clear hcz7_1
                try clear hcz7_2
                try clear hfz10_0
                try clear hfz11_0
                try clear hfz11_1
                try clear hfz11_2
                try clear hfz13_0
                try clear hfz13_1
                try clear hfz13_2
                try clear hfz16_0
                try clear hfz20_0
                try clear hfz20_1
                try clear hfz20_2
                try clear hfz21_0
                try clear hfz7_0
                try clear hfz7_1
                try clear hfz7_2
                try clear p2
                obtain ⟨x4_2, x6_2, x42_2, rfl, rfl, HA, HK2, HO_4, HO_40, BK324, BK325, HB⟩ := hrel
                cases gk with
                | zero => exact absurd HA.out (by simp [monikerlaw4_TreeTokens.l1])
                | succ k2 =>
                  have H := HA.out
                  clear HA
                  simp only [monikerlaw4_TreeTokens.l1] at H
                  by_cases c24 : x42_2 < (t331.length : Int)
                  · rw [if_pos c24] at H
                    have c24b0 : decide (x42_2 < (t331.length : Int)) = true := decide_eq_true c24
                    clear c24
                    by_cases c25 : 0 ≤ x42_2
                    · rw [if_pos c25] at H
                      have c25b0 : decide (0 ≤ x42_2) = true := decide_eq_true c25
                      clear c25
                      by_cases c26 : x42_2 < (t331.length : Int)
                      · rw [if_pos c26] at H
                        have c26b0 : decide (x42_2 < (t331.length : Int)) = true := decide_eq_true c26
                        clear c26
                        by_cases c27 : (rd t331 x42_2) ≤ x6_2
                        · rw [if_pos c27] at H
                          have c27b0 : decide ((rd t331 x42_2) ≤ x6_2) = true := decide_eq_true c27
                          clear c27
                          obtain rfl := Option.some.inj H
                          have p334 : 0 ≤ (x42_2 : Int) := of_decide_eq_true (by first | (with_reducible assumption) | assumption)
                          have q334 : x42_2 < (t331.length : Int) := of_decide_eq_true (by first | (with_reducible assumption) | assumption)
                          obtain ⟨ad334, e334, hx334_0⟩ := Kd.at_int (Kd.R_reads' HO_40.out).2.2 x42_2 p334 q334
                          cases e334
                          replace p334 := eq_true p334
                          replace q334 := eq_true q334
                          go_wp2
                          go_ret
                          exact ⟨by first | rfl | (simp [errW_none, errW_some] <;> rfl) | (simp [*, errW_none, errW_some] <;> rfl), by repeat (first | (with_reducible first | exact HB.out | apply below_alloc | apply pw_below_drewN | apply below_drew1 | refine below_set ?_ GE324.out | refine below_set ?_ GE325.out) | exact HB.out)⟩
                        · rw [if_neg c27] at H
                          have c27b0 : decide ((rd t331 x42_2) ≤ x6_2) = false := decide_eq_false c27
                          clear c27
                          by_cases c28 : 0 ≤ x33_1
                          · rw [if_pos c28] at H
                            have c28b0 : decide (0 ≤ x33_1) = true := decide_eq_true c28
                            clear c28
                            by_cases c29 : x33_1 < (l0_2.length : Int)
                            · rw [if_pos c29] at H
                              have c29b0 : decide (x33_1 < (l0_2.length : Int)) = true := decide_eq_true c29
                              clear c29
                              by_cases c30 : (rd t331 x42_2) < ((rd_T47 l0_2 x33_1).f1)
                              · rw [if_pos c30] at H
                                have c30b0 : decide ((rd t331 x42_2) < ((rd_T47 l0_2 x33_1).f1)) = true := decide_eq_true c30
                                clear c30
                                obtain rfl := Option.some.inj H
                                have p334 : 0 ≤ (x42_2 : Int) := of_decide_eq_true (by first | (with_reducible assumption) | assumption)
                                have q334 : x42_2 < (t331.length : Int) := of_decide_eq_true (by first | (with_reducible assumption) | assumption)
                                obtain ⟨ad334, e334, hx334_0⟩ := Kd.at_int (Kd.R_reads' HO_40.out).2.2 x42_2 p334 q334
                                cases e334
                                replace p334 := eq_true p334
                                replace q334 := eq_true q334
                                have hnb31 := NB325_324.out
                                have hnc31 := NB324_325.out
                                have hcz32_0 : wr.cell? ⟨gb325, 0, none⟩ = some (.slice A0_2 l0_2.length c0_2) := (blk_cell BK325.out 0).trans rfl
                                have hfz32_0 := blk_frozen BK325.out 0
                                have p335 : 0 ≤ (x33_1 : Int) := of_decide_eq_true (by first | (with_reducible assumption) | assumption)
                                have q335 : x33_1 < (l0_2.length : Int) := of_decide_eq_true (by first | (with_reducible assumption) | assumption)
                                obtain ⟨ad335, e335, hx335_0, hx335_1, hx335_2, hx335_3⟩ := at_T47 HR0_2.out x33_1 p335 q335
                                cases e335
                                replace hx335_0 := (HB.out.cell (World.block_lt_of_cell? w _ hx335_0)).trans hx335_0
                                replace hx335_1 := (HB.out.cell (World.block_lt_of_cell? w _ hx335_1)).trans hx335_1
                                replace hx335_2 := (HB.out.cell (World.block_lt_of_cell? w _ hx335_2)).trans hx335_2
                                replace hx335_3 := (HB.out.cell (World.block_lt_of_cell? w _ hx335_3)).trans hx335_3
                                replace p335 := eq_true p335
                                replace q335 := eq_true q335
                                go_wp2
                                go_ret
                                exact ⟨by first | rfl | (simp [errW_none, errW_some] <;> rfl) | (simp [*, errW_none, errW_some] <;> rfl), by repeat (first | (with_reducible first | exact HB.out | apply below_alloc | apply pw_below_drewN | apply below_drew1 | refine below_set ?_ GE324.out | refine below_set ?_ GE325.out) | exact HB.out)⟩
                              · rw [if_neg c30] at H
                                have c30b0 : decide ((rd t331 x42_2) < ((rd_T47 l0_2 x33_1).f1)) = false := decide_eq_false c30
                                clear c30
                                by_cases c33 : (rd t331 x42_2) ≥ ((rd_T47 l0_2 x33_1).f2)
                                · rw [if_pos c33] at H
                                  have c33b0 : decide (((rd_T47 l0_2 x33_1).f2) ≤ (rd t331 x42_2)) = true := decide_eq_true c33
                                  clear c33
                                  obtain rfl := Option.some.inj H
                                  have p334 : 0 ≤ (x42_2 : Int) := of_decide_eq_true (by first | (with_reducible assumption) | assumption)
                                  have q334 : x42_2 < (t331.length : Int) := of_decide_eq_true (by first | (with_reducible assumption) | assumption)
                                  obtain ⟨ad334, e334, hx334_0⟩ := Kd.at_int (Kd.R_reads' HO_40.out).2.2 x42_2 p334 q334
                                  cases e334
                                  replace p334 := eq_true p334
                                  replace q334 := eq_true q334
                                  have hnb34 := NB325_324.out
                                  have hnc34 := NB324_325.out
                                  have hcz35_0 : wr.cell? ⟨gb325, 0, none⟩ = some (.slice A0_2 l0_2.length c0_2) := (blk_cell BK325.out 0).trans rfl
                                  have hfz35_0 := blk_frozen BK325.out 0
                                  have p335 : 0 ≤ (x33_1 : Int) := of_decide_eq_true (by first | (with_reducible assumption) | assumption)
                                  have q335 : x33_1 < (l0_2.length : Int) := of_decide_eq_true (by first | (with_reducible assumption) | assumption)
                                  obtain ⟨ad335, e335, hx335_0, hx335_1, hx335_2, hx335_3⟩ := at_T47 HR0_2.out x33_1 p335 q335
                                  cases e335
                                  replace hx335_0 := (HB.out.cell (World.block_lt_of_cell? w _ hx335_0)).trans hx335_0
                                  replace hx335_1 := (HB.out.cell (World.block_lt_of_cell? w _ hx335_1)).trans hx335_1
                                  replace hx335_2 := (HB.out.cell (World.block_lt_of_cell? w _ hx335_2)).trans hx335_2
                                  replace hx335_3 := (HB.out.cell (World.block_lt_of_cell? w _ hx335_3)).trans hx335_3
                                  replace p335 := eq_true p335
                                  replace q335 := eq_true q335
                                  have p336 : 0 ≤ (x33_1 : Int) := of_decide_eq_true (by first | (with_reducible assumption) | assumption)
                                  have q336 : x33_1 < (l0_2.length : Int) := of_decide_eq_true (by first | (with_reducible assumption) | assumption)
                                  obtain ⟨ad336, e336, hx336_0, hx336_1, hx336_2, hx336_3⟩ := at_T47 HR0_2.out x33_1 p336 q336
                                  obtain rfl : ad335 = ad336 := (by injection e336)
                                  replace hx336_0 := (HB.out.cell (World.block_lt_of_cell? w _ hx336_0)).trans hx336_0
                                  replace hx336_1 := (HB.out.cell (World.block_lt_of_cell? w _ hx336_1)).trans hx336_1
                                  replace hx336_2 := (HB.out.cell (World.block_lt_of_cell? w _ hx336_2)).trans hx336_2
                                  replace hx336_3 := (HB.out.cell (World.block_lt_of_cell? w _ hx336_3)).trans hx336_3
                                  replace p336 := eq_true p336
                                  replace q336 := eq_true q336
                                  go_wp2
                                  go_ret
                                  exact ⟨by first | rfl | (simp [errW_none, errW_some] <;> rfl) | (simp [*, errW_none, errW_some] <;> rfl), by repeat (first | (with_reducible first | exact HB.out | apply below_alloc | apply pw_below_drewN | apply below_drew1 | refine below_set ?_ GE324.out | refine below_set ?_ GE325.out) | exact HB.out)⟩
                                · rw [if_neg c33] at H
                                  have c33b0 : decide (((rd_T47 l0_2 x33_1).f2) ≤ (rd t331 x42_2)) = false := decide_eq_false c33
                                  clear c33
                                  by_cases c36 : 0 ≤ (rd t331 x42_2)
                                  · rw [if_pos c36] at H
                                    have c36b0 : decide (0 ≤ (rd t331 x42_2)) = true := decide_eq_true c36
                                    clear c36
                                    by_cases c37 : (rd t331 x42_2) < (x4_2.length : Int)
                                    · rw [if_pos c37] at H
                                      have c37b0 : decide ((rd t331 x42_2) < (x4_2.length : Int)) = true := decide_eq_true c37
                                      clear c37
                                      obtain ⟨y338, hy338⟩ : ∃ y_ : List Int, y_ = (x4_2.set ((rd t331 x42_2) : Int).toNat (wrap64 ((rd x4_2 (rd t331 x42_2)) + 1))) := ⟨_, rfl⟩
                                      replace H : (monikerlaw4_TreeTokens.l1 k2 y338 x33_1 (rd t331 x42_2) (l0_2.length : Int) x33_1 t331 (t331.length : Int) (wrap64 (x42_2 + 1)) a0_0 l0_1 l0_2 l0_2) = some r := by first | (rw [hy338]; with_reducible exact H) | (have H2_ := (Option.bind_some _ _).symm.trans H; rw [hy338]; with_reducible exact H2_) | (have H2_ := (Option.bind_some _ _).symm.trans H; with_reducible exact H2_) | with_reducible exact H | (rw [hy338]; exact H) | exact H
                                      have Ny338 := Aside0.mk hy338
                                      clear hy338
                                      have H' := Aside0.mk H
                                      clear H
                                      have p334 : 0 ≤ (x42_2 : Int) := of_decide_eq_true (by first | (with_reducible assumption) | assumption)
                                      have q334 : x42_2 < (t331.length : Int) := of_decide_eq_true (by first | (with_reducible assumption) | assumption)
                                      obtain ⟨ad334, e334, hx334_0⟩ := Kd.at_int (Kd.R_reads' HO_40.out).2.2 x42_2 p334 q334
                                      cases e334
                                      replace p334 := eq_true p334
                                      replace q334 := eq_true q334
                                      have hnb39 := NB325_324.out
                                      have hnc39 := NB324_325.out
                                      have hcz40_0 : wr.cell? ⟨gb325, 0, none⟩ = some (.slice A0_2 l0_2.length c0_2) := (blk_cell BK325.out 0).trans rfl
                                      have hfz40_0 := blk_frozen BK325.out 0
                                      have p335 : 0 ≤ (x33_1 : Int) := of_decide_eq_true (by first | (with_reducible assumption) | assumption)
                                      have q335 : x33_1 < (l0_2.length : Int) := of_decide_eq_true (by first | (with_reducible assumption) | assumption)
                                      obtain ⟨ad335, e335, hx335_0, hx335_1, hx335_2, hx335_3⟩ := at_T47 HR0_2.out x33_1 p335 q335
                                      cases e335
                                      replace hx335_0 := (HB.out.cell (World.block_lt_of_cell? w _ hx335_0)).trans hx335_0
                                      replace hx335_1 := (HB.out.cell (World.block_lt_of_cell? w _ hx335_1)).trans hx335_1
                                      replace hx335_2 := (HB.out.cell (World.block_lt_of_cell? w _ hx335_2)).trans hx335_2
                                      replace hx335_3 := (HB.out.cell (World.block_lt_of_cell? w _ hx335_3)).trans hx335_3
                                      replace p335 := eq_true p335
                                      replace q335 := eq_true q335
                                      have p336 : 0 ≤ (x33_1 : Int) := of_decide_eq_true (by first | (with_reducible assumption) | assumption)
                                      have q336 : x33_1 < (l0_2.length : Int) := of_decide_eq_true (by first | (with_reducible assumption) | assumption)
                                      obtain ⟨ad336, e336, hx336_0, hx336_1, hx336_2, hx336_3⟩ := at_T47 HR0_2.out x33_1 p336 q336
                                      obtain rfl : ad335 = ad336 := (by injection e336)
                                      replace hx336_0 := (HB.out.cell (World.block_lt_of_cell? w _ hx336_0)).trans hx336_0
                                      replace hx336_1 := (HB.out.cell (World.block_lt_of_cell? w _ hx336_1)).trans hx336_1
                                      replace hx336_2 := (HB.out.cell (World.block_lt_of_cell? w _ hx336_2)).trans hx336_2
                                      replace hx336_3 := (HB.out.cell (World.block_lt_of_cell? w _ hx336_3)).trans hx336_3
                                      replace p336 := eq_true p336
                                      replace q336 := eq_true q336
                                      obtain ⟨Ao41, co41, eo41⟩ := Kd.R_slice HO_4.out
                                      subst eo41
                                      have p337 : 0 ≤ ((rd t331 x42_2) : Int) := of_decide_eq_true (by first | (with_reducible assumption) | assumption)
                                      have q337 : (rd t331 x42_2) < (x4_2.length : Int) := of_decide_eq_true (by first | (with_reducible assumption) | assumption)
                                      obtain ⟨ad337, e337, hx337_0⟩ := Kd.at_int (Kd.R_reads' HO_4.out).2.2 (rd t331 x42_2) p337 q337
                                      cases e337
                                      replace p337 := eq_true p337
                                      replace q337 := eq_true q337
                                      have p38 : 0 ≤ ((rd t331 x42_2) : Int) := of_decide_eq_true (by first | (with_reducible assumption) | assumption)
                                      have q38 : ((rd t331 x42_2) : Int) < ((x4_2.length : Int) : Int) := of_decide_eq_true (by first | (with_reducible assumption) | assumption)
                                      obtain ⟨go38, co38, eo38, gb38, gl38, cl38, HG38⟩ := Kd.R_form HO_4.out (by omega)
                                      (first | cases eo38 | (injection eo38 with ea_ en_ ec_; (first | subst ea_ | (injection ea_ with ea_; subst ea_)); subst ec_; clear en_))
                                      have GB38 := Aside0.mk gb38
                                      have GG38 := Aside0.mk HG38
                                      clear gb38 gl38 HG38
                                      (first | simp only [add_plain] at hx337_0 | skip)
                                      obtain ⟨hx38_0, hf38_0⟩ := Kd.R_celln 0 HO_4.out ((rd t331 x42_2) : Int) p38 q38
                                      replace p38 := eq_true p38
                                      replace q38 := eq_true q38
                                      have HP42 := Kd.R_putg HO_4.out ((rd t331 x42_2) : Int) (wrap64 ((rd x4_2 (rd t331 x42_2)) + 1))
                                      go_wp2_with (first | ((with_reducible refine gate_store (t := 3) (p := 75) rfl ?_); refine store_event (t := 3) (p := 75) (v := ?vo_w43) (w1 := (wr.setCell ⟨go38, ((rd t331 x42_2) : Int).toNat, none⟩ (.int .i64 (wrap64 ((rd x4_2 (rd t331 x42_2)) + 1))))) ?hg ?ho ?hn ?hr ?_; (case ho => rfl); (case hg => rfl); (case hn => rfl); (case hr => first | (go_simp; done) | (go_simp; rfl)); intro w43 hw; have hg : wr.grownBy w43 (some go38) := (by rw [hw]; exact HP42.2); have hp_ : Kd.R (Kd.int .i64) 3 w43 w.heap.size (fun k_ => some k_ ≠ (.slice (some ad334) t331.length co23 : Value).ownBlock) (.slice (some ⟨go38, 0, none⟩) x4_2.length co41) y338 := (by rw [hw, Ny338.out]; exact HP42.1); clear HP42; have n0_ := Aside0.mk (hp_); have n1_ := Aside0.mk (Kd.R_after (v := (.slice (some ⟨go38, 0, none⟩) x4_2.length co41)) (v1 := (.slice (some ⟨go38, 0, none⟩) x4_2.length co41)) (ok := (fun _ => True)) (by (with_reducible repeat (first | apply Kd.R_alloc | apply Kd.R_drewN | apply Kd.R_drew)); exact Kd.R_mono HO_40.out (fun _ hk => ⟨trivial, hk⟩)) hg (.inl rfl)); have n2_ := Aside0.mk (blk_grown (g := gb324) (o := .cells #[.string a0_0, .slice A0_1 l0_1.length c0_1, .slice (some ad335) l0_2.length c0_2] 27 (0, 0)) (by (with_reducible repeat (first | refine blk_drewN ?_ _ | refine blk_drew ?_ | refine blk_alloc ?_ _)); exact BK324.out) hg (Kd.R_ne HO_4.out BK324.out (by decide))); have n3_ := Aside0.mk (blk_grown (g := gb325) (o := .cells #[.slice (some ad335) l0_2.length c0_2] 25 (0, 0)) (by (with_reducible repeat (first | refine blk_drewN ?_ _ | refine blk_drew ?_ | refine blk_alloc ?_ _)); exact BK325.out) hg (Kd.R_ne HO_4.out BK325.out (by decide))); have n4_ := Aside0.mk ((by rw [hw]; exact below_set (HB.out) GB38.out : Below w.heap.size w w43)); clear HO_4; clear HO_40; clear BK324; clear BK325; clear HB; have HO_4 := n0_; have HO_40 := n1_; have BK324 := n2_; have BK325 := n3_; have HB := n4_; clear n0_ n1_ n2_ n3_ n4_; clear hg hw hp_))
                                      go_roundg k2
                                      case measure => have := HK1.out; have := HK2.out; omega
                                      case rel => exact ⟨(y338), (rd t331 x42_2), (wrap64 (x42_2 + 1)), (by first | rfl | (simp; done) | (simp [*]; done)), (by first | rfl | (simp; done) | (simp [*]; done)), H', ⟨by have := HK1.out; have := HK2.out; omega⟩, ⟨by (with_reducible repeat (first | apply Kd.R_alloc | apply Kd.R_drewN | apply Kd.R_drew)); exact HO_4.out⟩, ⟨by (with_reducible repeat (first | apply Kd.R_alloc | apply Kd.R_drewN | apply Kd.R_drew)); exact Kd.R_mono HO_40.out (fun _ hk => hk.2)⟩, ⟨by (with_reducible repeat (first | refine blk_drewN ?_ _ | refine blk_drew ?_ | refine blk_alloc ?_ _)); exact BK324.out⟩, ⟨by (with_reducible repeat (first | refine blk_drewN ?_ _ | refine blk_drew ?_ | refine blk_alloc ?_ _)); exact BK325.out⟩, ⟨by repeat (first | (with_reducible first | exact HB.out | apply below_alloc | apply pw_below_drewN | apply below_drew1 | refine below_set ?_ GE324.out | refine below_set ?_ GE325.out) | exact HB.out)⟩⟩
                                    · rw [if_neg c37] at H
                                      exact absurd H (by simp)
                                  · rw [if_neg c36] at H
                                    exact absurd H (by simp)
                            · rw [if_neg c29] at H
                              exact absurd H (by simp)
                          · rw [if_neg c28] at H
                            exact absurd H (by simp)
                      · rw [if_neg c26] at H
                        exact absurd H (by simp)
                    · rw [if_neg c25] at H
                      exact absurd H (by simp)
                  · rw [if_neg c24] at H
                    have c24b0 : decide (x42_2 < (t331.length : Int)) = false := decide_eq_false c24
                    clear c24
                    have H' := Aside0.mk H
                    clear H
                    go_wp2
                    go_roundg k2
                    case measure => have := HK1.out; have := HK2.out; omega
                    case rel => exact ⟨(x4_2), (wrap64 (x33_1 + 1)), (by first | rfl | (simp; done) | (simp [*]; done)), H', ⟨by have := HK1.out; have := HK2.out; omega⟩, ⟨by (with_reducible repeat (first | apply Kd.R_alloc | apply Kd.R_drewN | apply Kd.R_drew)); exact Kd.R_mono HO_4.out (fun _ hk => trivial)⟩, ⟨by (with_reducible repeat (first | refine blk_drewN ?_ _ | refine blk_drew ?_ | refine blk_alloc ?_ _)); exact BK324.out⟩, ⟨by (with_reducible repeat (first | refine blk_drewN ?_ _ | refine blk_drew ?_ | refine blk_alloc ?_ _)); exact BK325.out⟩, ⟨by repeat (first | (with_reducible first | exact HB.out | apply below_alloc | apply pw_below_drewN | apply below_drew1 | refine below_set ?_ GE324.out | refine below_set ?_ GE325.out) | exact HB.out)⟩⟩
            · rw [if_neg c17] at H
              have c17b0 : decide (x33_1 < (l0_2.length : Int)) = false := decide_eq_false c17
              clear c17
              have H' := Aside0.mk H
              clear H
              have hnb44 := NB324_325.out
              have hnc44 := NB325_324.out
              have hcz45_0 : wr.cell? ⟨gb324, 0, none⟩ = some (.string a0_0) := (blk_cell BK324.out 0).trans rfl
              have hcz45_1 : wr.cell? ⟨gb324, 1, none⟩ = some (.slice A0_1 l0_1.length c0_1) := (blk_cell BK324.out 1).trans rfl
              have hcz45_2 : wr.cell? ⟨gb324, 2, none⟩ = some (.slice A0_2 l0_2.length c0_2) := (blk_cell BK324.out 2).trans rfl
              have hfz45_0 := blk_frozen BK324.out 0
              have hfz45_1 := blk_frozen BK324.out 1
              have hfz45_2 := blk_frozen BK324.out 2
              go_wp2
              go_loopg [81] k1 (fun kq v81 w' => ∃ (x81_2 : Int), v81 = .int .i64 x81_2 ∧ Aside0 (monikerlaw4_TreeTokens.l2 kq x4_1 l0_1 (l0_1.length : Int) x81_2 l0_2 = some r) ∧ Aside0 (kq ≤ k1) ∧ Aside0 (Kd.R (Kd.int .i64) 3 w' w.heap.size (fun _ => True) v329 x4_1) ∧ Aside0 (w'.heap[gb324]? = some (.cells #[.string a0_0, (.slice A0_1 l0_1.length c0_1), (.slice A0_2 l0_2.length c0_2)] 27 (0, 0))) ∧ Aside0 (w'.heap[gb325]? = some (.cells #[(.slice A0_2 l0_2.length c0_2)] 25 (0, 0))) ∧ Aside0 (Below w.heap.size w w'))
              case atStart => exact ⟨(0), (by first | rfl | (simp; done) | (simp [*]; done)), H', ⟨Nat.le_refl _⟩, ⟨by (with_reducible repeat (first | apply Kd.R_alloc | apply Kd.R_drewN | apply Kd.R_drew)); exact HO_4.out⟩, ⟨by (with_reducible repeat (first | refine blk_drewN ?_ _ | refine blk_drew ?_ | refine blk_alloc ?_ _)); exact BK324.out⟩, ⟨by (with_reducible repeat (first | refine blk_drewN ?_ _ | refine blk_drew ?_ | refine blk_alloc ?_ _)); exact BK325.out⟩, ⟨by repeat (first | (with_reducible first | exact HB.out | apply below_alloc | apply pw_below_drewN | apply below_drew1 | refine below_set ?_ GE324.out | refine below_set ?_ GE325.out) | exact HB.out)⟩⟩
              case round =>
                clear H'
                try clear c1
                try clear c2
                try clear p2
                try clear c3
                try clear p3
                try clear q3
                try clear hx3
                try clear hf3
                try clear c4
                try clear c4b0
                try clear c4b1
                try clear c5
                try clear c5b0
                try clear c5b1
                try clear p6
                try clear c9
                try clear c15
                try clear c17
                try clear c17b0
                try clear c19
                try clear c24
                try clear c24b0
                try clear c25
                try clear c25b0
                try clear c26
                try clear c26b0
                try clear c27
                try clear c27b0
                try clear c28
                try clear c28b0
                try clear c29
                try clear c29b0
                try clear c30
                try clear c30b0
                try clear c31
                try clear c33
                try clear c33b0
                try clear p33
                try clear q33
                try clear hx33
                try clear c34
                try clear c36
                try clear c36b0
                try clear c37
                try clear c37b0
                try clear p38
                try clear q38
                try clear hx38
                try clear hf38
                try clear c39
                try clear c42
                try clear c44
                try clear hcz10_0
                try clear hcz11_0
                try clear hcz11_1
                try clear hcz11_2
                try clear hcz13_0
                try clear hcz13_1
                try clear hcz13_2
                try clear hcz16_0
                try clear hcz20_0
                try clear hcz20_1
                try clear hcz20_2
                try clear hcz21_0
                try clear hcz32_0
                try clear hcz35_0
                try clear hcz40_0
                try clear hcz45_0
                try clear hcz45_1
                try clear hcz45_2
                try clear hcz7_0
                try clear hcz7_1
                try clear hcz7_2
                try clear hfz10_0
                try clear hfz11_0
                try clear hfz11_1
                try clear hfz11_2
                try clear hfz13_0
                try clear hfz13_1
                try clear hfz13_2
                try clear hfz16_0
                try clear hfz20_0
                try clear hfz20_1
                try clear hfz20_2
                try clear hfz21_0
                try clear hfz32_0
                try clear hfz35_0
                try clear hfz40_0
                try clear hfz45_0
                try clear hfz45_1
                try clear hfz45_2
                try clear hfz7_0
                try clear hfz7_1
                try clear hfz7_2
                try clear hx334_0
                try clear hx335_0
                try clear hx335_1
                try clear hx335_2
                try clear hx335_3
                try clear hx336_0
                try clear hx336_1
                try clear hx336_2
                try clear hx336_3
                try clear hx337_0
                try clear hx38_0
                try clear p2
                try clear p334
                try clear p335
                try clear p336
                try clear p337
                try clear p38
                try clear q334
                try clear q335
                try clear q336
                try clear q337
                try clear q38
                obtain ⟨x81_2, rfl, HA, HK2, HO_4, BK324, BK325, HB⟩ := hrel
                cases gk with
                | zero => exact absurd HA.out (by simp [monikerlaw4_TreeTokens.l2])
                | succ k2 =>
                  have H := HA.out
                  clear HA
                  simp only [monikerlaw4_TreeTokens.l2] at H
                  by_cases c46 : x81_2 < (l0_1.length : Int)
                  · rw [if_pos c46] at H
                    have c46b0 : decide (x81_2 < (l0_1.length : Int)) = true := decide_eq_true c46
                    clear c46
                    by_cases c47 : 0 ≤ x81_2
                    · rw [if_pos c47] at H
                      have c47b0 : decide (0 ≤ x81_2) = true := decide_eq_true c47
                      clear c47
                      by_cases c48 : x81_2 < (l0_1.length : Int)
                      · rw [if_pos c48] at H
                        have c48b0 : decide (x81_2 < (l0_1.length : Int)) = true := decide_eq_true c48
                        clear c48
                        have HC49 := Aside0.mk H
                        clear H
                        have p339 : 0 ≤ (x81_2 : Int) := of_decide_eq_true (by first | (with_reducible assumption) | assumption)
                        have q339 : x81_2 < (l0_1.length : Int) := of_decide_eq_true (by first | (with_reducible assumption) | assumption)
                        obtain ⟨ad339, e339, hx339_0, hx339_1, hx339_2⟩ := at_T61 HR0_1.out x81_2 p339 q339
                        cases e339
                        replace hx339_0 := (HB.out.cell (World.block_lt_of_cell? w _ hx339_0)).trans hx339_0
                        replace hx339_1 := (HB.out.cell (World.block_lt_of_cell? w _ hx339_1)).trans hx339_1
                        replace hx339_2 := (HB.out.cell (World.block_lt_of_cell? w _ hx339_2)).trans hx339_2
                        replace p339 := eq_true p339
                        replace q339 := eq_true q339
                        go_upto_region 22 with (first | ((with_reducible refine gate_dst (N := 10) rfl ?_); refine box_event ?hg (N := 10) ?hd (cs := #[.int .u8 0, .int .i64 0, .int .i64 0]) (t := 61) ?hr ?_; (case hd => rfl); (case hg => rfl); (case hr => first | (go_simp; done) | (go_simp; rfl)); intro gb340 hg w50 hbox hb; have n0_ := Aside0.mk (Kd.R_below (by (with_reducible repeat (first | apply Kd.R_alloc | apply Kd.R_drewN | apply Kd.R_drew)); exact HO_4.out) hb); have n1_ := Aside0.mk (blk_below (g := gb324) (o := .cells #[.string a0_0, .slice (some ad339) l0_1.length c0_1, .slice A0_2 l0_2.length c0_2] 27 (0, 0)) (by (with_reducible repeat (first | refine blk_drewN ?_ _ | refine blk_drew ?_ | refine blk_alloc ?_ _)); exact BK324.out) hb); have n2_ := Aside0.mk (blk_below (g := gb325) (o := .cells #[.slice A0_2 l0_2.length c0_2] 25 (0, 0)) (by (with_reducible repeat (first | refine blk_drewN ?_ _ | refine blk_drew ?_ | refine blk_alloc ?_ _)); exact BK325.out) hb); have n3_ := Aside0.mk (below_step (by repeat (first | (with_reducible first | exact HB.out | apply below_alloc | apply pw_below_drewN | apply below_drew1 | refine below_set ?_ GE324.out | refine below_set ?_ GE325.out) | exact HB.out)) hb); have n4_ := Aside0.mk (hbox); have n5_ := Aside0.mk ((by rw [hg]; exact (below_size (by repeat (first | (with_reducible first | exact HB.out | apply below_alloc | apply pw_below_drewN | apply below_drew1 | refine below_set ?_ GE324.out | refine below_set ?_ GE325.out) | exact HB.out))) : w.heap.size ≤ gb340)); have n6_ := Aside0.mk ((by rw [hg]; exact (below_size (by repeat (first | (with_reducible first | exact HB.out | apply below_alloc | apply pw_below_drewN | apply below_drew1 | refine below_set ?_ GE324.out | refine below_set ?_ GE325.out) | exact HB.out))) : w.heap.size ≤ gb340)); have n7_ := Aside0.mk ((by rw [hg]; exact Nat.ne_of_lt (blk_lt (g := gb324) (o := .cells #[.string a0_0, .slice (some ad339) l0_1.length c0_1, .slice A0_2 l0_2.length c0_2] 27 (0, 0)) (by (with_reducible repeat (first | refine blk_drewN ?_ _ | refine blk_drew ?_ | refine blk_alloc ?_ _)); exact BK324.out)) : gb324 ≠ gb340)); have n8_ := Aside0.mk ((by rw [hg]; exact Nat.ne_of_gt (blk_lt (g := gb324) (o := .cells #[.string a0_0, .slice (some ad339) l0_1.length c0_1, .slice A0_2 l0_2.length c0_2] 27 (0, 0)) (by (with_reducible repeat (first | refine blk_drewN ?_ _ | refine blk_drew ?_ | refine blk_alloc ?_ _)); exact BK324.out)) : gb340 ≠ gb324)); have n9_ := Aside0.mk ((by rw [hg]; exact Nat.ne_of_lt (blk_lt (g := gb325) (o := .cells #[.slice A0_2 l0_2.length c0_2] 25 (0, 0)) (by (with_reducible repeat (first | refine blk_drewN ?_ _ | refine blk_drew ?_ | refine blk_alloc ?_ _)); exact BK325.out)) : gb325 ≠ gb340)); have n10_ := Aside0.mk ((by rw [hg]; exact Nat.ne_of_gt (blk_lt (g := gb325) (o := .cells #[.slice A0_2 l0_2.length c0_2] 25 (0, 0)) (by (with_reducible repeat (first | refine blk_drewN ?_ _ | refine blk_drew ?_ | refine blk_alloc ?_ _)); exact BK325.out)) : gb340 ≠ gb325)); clear HO_4; clear BK324; clear BK325; clear HB; have HO_4 := n0_; have BK324 := n1_; have BK325 := n2_; have HB := n3_; have BK340 := n4_; have GW340 := n5_; have GE340 := n6_; have NB324_340 := n7_; have NB340_324 := n8_; have NB325_340 := n9_; have NB340_325 := n10_; clear n0_ n1_ n2_ n3_ n4_ n5_ n6_ n7_ n8_ n9_ n10_; clear hb hbox hg; have hnb51 := NB340_324.out; have hnc51 := NB324_340.out; have hnb52 := NB340_325.out; have hnc52 := NB325_340.out; have hcz53_0 : w50.cell? ⟨gb340, 0, none⟩ = some (.int .u8 0) := (blk_cell BK340.out 0).trans rfl; have hcz53_1 : w50.cell? ⟨gb340, 1, none⟩ = some (.int .i64 0) := (blk_cell BK340.out 1).trans rfl; have hcz53_2 : w50.cell? ⟨gb340, 2, none⟩ = some (.int .i64 0) := (blk_cell BK340.out 2).trans rfl; have hfz53_0 := blk_frozen BK340.out 0; have hfz53_1 := blk_frozen BK340.out 1; have hfz53_2 := blk_frozen BK340.out 2))
                        (try simp only [Act.put, List.setIfInBounds_toArray, List.set_cons_zero, List.set_cons_succ])
                        go_cut [111] (fun v111 wc => ∃ (kq : Nat) (x111_48 : Bool), v111 = .bool x111_48 ∧ Aside0 (monikerlaw4_TreeTokens.j3 kq x4_1 x81_2 1 l0_1 (l0_1.length : Int) x81_2 x111_48 l0_2 = some r) ∧ Aside0 (kq ≤ k2) ∧ Aside0 (Kd.R (Kd.int .i64) 3 wc w.heap.size (fun _ => True) v329 x4_1) ∧ Aside0 (wc.heap[gb324]? = some (.cells #[.string a0_0, (.slice (some ad339) l0_1.length c0_1), (.slice A0_2 l0_2.length c0_2)] 27 (0, 0))) ∧ Aside0 (wc.heap[gb325]? = some (.cells #[(.slice A0_2 l0_2.length c0_2)] 25 (0, 0))) ∧ Aside0 (wc.heap[gb340]? = some (.cells #[.int .u8 ((rd_T61 l0_1 x81_2).f0), .int .i64 ((rd_T61 l0_1 x81_2).f1), .int .i64 ((rd_T61 l0_1 x81_2).f2)] 61 (0, 0))) ∧ Aside0 (Below w.heap.size w wc))
                        case first =>
                          have H := HC49.out
                          clear HC49
                          by_cases c54 : ((rd_T61 l0_1 x81_2).f0) = 0
                          · rw [if_pos c54] at H
                            have c54b0 : (((rd_T61 l0_1 x81_2).f0) == 0) = true := beq_iff_eq.mpr c54
                            have c54b1 : (((rd_T61 l0_1 x81_2).f0) != 0) = false := bne_eq_false_iff_eq.mpr c54
                            clear c54
                            (first | rw [c54b0] | (simp only [i64_w, i32_w]; rw [c54b0]) | skip)
                            have H' := Aside0.mk H
                            clear H
                            have hnb55 := NB340_324.out
                            have hnc55 := NB324_340.out
                            have hnb56 := NB340_325.out
                            have hnc56 := NB325_340.out
                            have hcz57_0 : w50.cell? ⟨gb340, 0, none⟩ = some (.int .u8 0) := (blk_cell BK340.out 0).trans rfl
                            have hcz57_1 : w50.cell? ⟨gb340, 1, none⟩ = some (.int .i64 0) := (blk_cell BK340.out 1).trans rfl
                            have hcz57_2 : w50.cell? ⟨gb340, 2, none⟩ = some (.int .i64 0) := (blk_cell BK340.out 2).trans rfl
                            have hfz57_0 := blk_frozen BK340.out 0
                            have hfz57_1 := blk_frozen BK340.out 1
                            have hfz57_2 := blk_frozen BK340.out 2
                            go_wp2
                            go_meet
                            case rel => exact ⟨_, (true), (by first | rfl | (simp; done) | (simp [*]; done)), H', ⟨by have := HK1.out; have := HK2.out; first | omega | exact Nat.le_refl _⟩, ⟨by (with_reducible repeat (first | apply Kd.R_alloc | apply Kd.R_drewN | apply Kd.R_drew)); exact Kd.R_mono (Kd.R_far (p := ⟨gb340, 2, none⟩) (Kd.R_far (p := ⟨gb340, 1, none⟩) (Kd.R_far (p := ⟨gb340, 0, none⟩) (Kd.R_types HO_4.out BK340.out (by decide)) (fun _ hk => hk.2) (.int .u8 ((rd_T61 l0_1 x81_2).f0))) (fun _ hk => hk.2) (.int .i64 ((rd_T61 l0_1 x81_2).f1))) (fun _ hk => hk.2) (.int .i64 ((rd_T61 l0_1 x81_2).f2))) (fun _ hk => trivial)⟩, ⟨by (with_reducible repeat (first | refine blk_drewN ?_ _ | refine blk_drew ?_ | refine blk_alloc ?_ _)); refine blk_far ?_ NB324_340.out _; (with_reducible repeat (first | refine blk_drewN ?_ _ | refine blk_drew ?_ | refine blk_alloc ?_ _)); refine blk_far ?_ NB324_340.out _; (with_reducible repeat (first | refine blk_drewN ?_ _ | refine blk_drew ?_ | refine blk_alloc ?_ _)); refine blk_far ?_ NB324_340.out _; (with_reducible repeat (first | refine blk_drewN ?_ _ | refine blk_drew ?_ | refine blk_alloc ?_ _)); exact BK324.out⟩, ⟨by (with_reducible repeat (first | refine blk_drewN ?_ _ | refine blk_drew ?_ | refine blk_alloc ?_ _)); refine blk_far ?_ NB325_340.out _; (with_reducible repeat (first | refine blk_drewN ?_ _ | refine blk_drew ?_ | refine blk_alloc ?_ _)); refine blk_far ?_ NB325_340.out _; (with_reducible repeat (first | refine blk_drewN ?_ _ | refine blk_drew ?_ | refine blk_alloc ?_ _)); refine blk_far ?_ NB325_340.out _; (with_reducible repeat (first | refine blk_drewN ?_ _ | refine blk_drew ?_ | refine blk_alloc ?_ _)); exact BK325.out⟩, ⟨by (with_reducible repeat (first | refine blk_drewN ?_ _ | refine blk_drew ?_ | refine blk_alloc ?_ _)); refine blk_put (cs := #[.int .u8 ((rd_T61 l0_1 x81_2).f0), .int .i64 ((rd_T61 l0_1 x81_2).f1), .int .i64 0]) ?_ 2 _ rfl; (with_reducible repeat (first | refine blk_drewN ?_ _ | refine blk_drew ?_ | refine blk_alloc ?_ _)); refine blk_put (cs := #[.int .u8 ((rd_T61 l0_1 x81_2).f0), .int .i64 0, .int .i64 0]) ?_ 1 _ rfl; (with_reducible repeat (first | refine blk_drewN ?_ _ | refine blk_drew ?_ | refine blk_alloc ?_ _)); refine blk_put (cs := #[.int .u8 0, .int .i64 0, .int .i64 0]) ?_ 0 _ rfl; (with_reducible repeat (first | refine blk_drewN ?_ _ | refine blk_drew ?_ | refine blk_alloc ?_ _)); exact BK340.out⟩, ⟨by repeat (first | (with_reducible first | exact HB.out | apply below_alloc | apply pw_below_drewN | apply below_drew1 | refine below_set ?_ GE324.out | refine below_set ?_ GE325.out | refine below_set ?_ GE340.out) | exact HB.out)⟩⟩
                          · rw [if_neg c54] at H
                            have c54b0 : (((rd_T61 l0_1 x81_2).f0) == 0) = false := beq_eq_false_iff_ne.mpr c54
                            have c54b1 : (((rd_T61 l0_1 x81_2).f0) != 0) = true := bne_iff_ne.mpr c54
                            (first | rw [c54b0] | (simp only [i64_w, i32_w]; rw [c54b0]) | skip)
                            by_cases c58 : ((rd_T61 l0_1 x81_2).f0) = 1
                            · rw [if_pos c58] at H
                              have c58b0 : (((rd_T61 l0_1 x81_2).f0) == 1) = true := beq_iff_eq.mpr c58
                              have c58b1 : (((rd_T61 l0_1 x81_2).f0) != 1) = false := bne_eq_false_iff_eq.mpr c58
                              clear c58
                              have H' := Aside0.mk H
                              clear H
                              have hnb59 := NB340_324.out
                              have hnc59 := NB324_340.out
                              have hnb60 := NB340_325.out
                              have hnc60 := NB325_340.out
                              have hcz61_0 : w50.cell? ⟨gb340, 0, none⟩ = some (.int .u8 0) := (blk_cell BK340.out 0).trans rfl
                              have hcz61_1 : w50.cell? ⟨gb340, 1, none⟩ = some (.int .i64 0) := (blk_cell BK340.out 1).trans rfl
                              have hcz61_2 : w50.cell? ⟨gb340, 2, none⟩ = some (.int .i64 0) := (blk_cell BK340.out 2).trans rfl
                              have hfz61_0 := blk_frozen BK340.out 0
                              have hfz61_1 := blk_frozen BK340.out 1
                              have hfz61_2 := blk_frozen BK340.out 2
                              go_wp2
                              go_meet
                              case rel => exact ⟨_, (true), (by first | rfl | (simp; done) | (simp [*]; done)), H', ⟨by have := HK1.out; have := HK2.out; first | omega | exact Nat.le_refl _⟩, ⟨by (with_reducible repeat (first | apply Kd.R_alloc | apply Kd.R_drewN | apply Kd.R_drew)); exact Kd.R_mono (Kd.R_far (p := ⟨gb340, 2, none⟩) (Kd.R_far (p := ⟨gb340, 1, none⟩) (Kd.R_far (p := ⟨gb340, 0, none⟩) (Kd.R_types HO_4.out BK340.out (by decide)) (fun _ hk => hk.2) (.int .u8 ((rd_T61 l0_1 x81_2).f0))) (fun _ hk => hk.2) (.int .i64 ((rd_T61 l0_1 x81_2).f1))) (fun _ hk => hk.2) (.int .i64 ((rd_T61 l0_1 x81_2).f2))) (fun _ hk => trivial)⟩, ⟨by (with_reducible repeat (first | refine blk_drewN ?_ _ | refine blk_drew ?_ | refine blk_alloc ?_ _)); refine blk_far ?_ NB324_340.out _; (with_reducible repeat (first | refine blk_drewN ?_ _ | refine blk_drew ?_ | refine blk_alloc ?_ _)); refine blk_far ?_ NB324_340.out _; (with_reducible repeat (first | refine blk_drewN ?_ _ | refine blk_drew ?_ | refine blk_alloc ?_ _)); refine blk_far ?_ NB324_340.out _; (with_reducible repeat (first | refine blk_drewN ?_ _ | refine blk_drew ?_ | refine blk_alloc ?_ _)); exact BK324.out⟩, ⟨by (with_reducible repeat (first | refine blk_drewN ?_ _ | refine blk_drew ?_ | refine blk_alloc ?_ _)); refine blk_far ?_ NB325_340.out _; (with_reducible repeat (first | refine blk_drewN ?_ _ | refine blk_drew ?_ | refine blk_alloc ?_ _)); refine blk_far ?_ NB325_340.out _; (with_reducible repeat (first | refine blk_drewN ?_ _ | refine blk_drew ?_ | refine blk_alloc ?_ _)); refine blk_far ?_ NB325_340.out _; (with_reducible repeat (first | refine blk_drewN ?_ _ | refine blk_drew ?_ | refine blk_alloc ?_ _)); exact BK325.out⟩, ⟨by (with_reducible repeat (first | refine blk_drewN ?_ _ | refine blk_drew ?_ | refine blk_alloc ?_ _)); refine blk_put (cs := #[.int .u8 ((rd_T61 l0_1 x81_2).f0), .int .i64 ((rd_T61 l0_1 x81_2).f1), .int .i64 0]) ?_ 2 _ rfl; (with_reducible repeat (first | refine blk_drewN ?_ _ | refine blk_drew ?_ | refine blk_alloc ?_ _)); refine blk_put (cs := #[.int .u8 ((rd_T61 l0_1 x81_2).f0), .int .i64 0, .int .i64 0]) ?_ 1 _ rfl; (with_reducible repeat (first | refine blk_drewN ?_ _ | refine blk_drew ?_ | refine blk_alloc ?_ _)); refine blk_put (cs := #[.int .u8 0, .int .i64 0, .int .i64 0]) ?_ 0 _ rfl; (with_reducible repeat (first | refine blk_drewN ?_ _ | refine blk_drew ?_ | refine blk_alloc ?_ _)); exact BK340.out⟩, ⟨by repeat (first | (with_reducible first | exact HB.out | apply below_alloc | apply pw_below_drewN | apply below_drew1 | refine below_set ?_ GE324.out | refine below_set ?_ GE325.out | refine below_set ?_ GE340.out) | exact HB.out)⟩⟩
                            · rw [if_neg c58] at H
                              have c58b0 : (((rd_T61 l0_1 x81_2).f0) == 1) = false := beq_eq_false_iff_ne.mpr c58
                              have c58b1 : (((rd_T61 l0_1 x81_2).f0) != 1) = true := bne_iff_ne.mpr c58
                              by_cases c62 : 0 < (l0_2.length : Int)
                              · rw [if_pos c62] at H
                                have c62b0 : decide (0 < (l0_2.length : Int)) = true := decide_eq_true c62
                                have c62b1 : decide (0 < l0_2.length) = true := decide_eq_true (by omega)
                                clear c62
                                by_cases c63 : x81_2 < ((rd_T47 l0_2 0).f1)
                                · rw [if_pos c63] at H
                                  have c63b0 : decide (x81_2 < ((rd_T47 l0_2 0).f1)) = true := decide_eq_true c63
                                  clear c63
                                  have H' := Aside0.mk H
                                  clear H
                                  have hnb64 := NB340_324.out
                                  have hnc64 := NB324_340.out
                                  have hnb65 := NB340_325.out
                                  have hnc65 := NB325_340.out
                                  have hcz66_0 : w50.cell? ⟨gb340, 0, none⟩ = some (.int .u8 0) := (blk_cell BK340.out 0).trans rfl
                                  have hcz66_1 : w50.cell? ⟨gb340, 1, none⟩ = some (.int .i64 0) := (blk_cell BK340.out 1).trans rfl
                                  have hcz66_2 : w50.cell? ⟨gb340, 2, none⟩ = some (.int .i64 0) := (blk_cell BK340.out 2).trans rfl
                                  have hfz66_0 := blk_frozen BK340.out 0
                                  have hfz66_1 := blk_frozen BK340.out 1
                                  have hfz66_2 := blk_frozen BK340.out 2
                                  have hnb67 := NB325_324.out
                                  have hnc67 := NB324_325.out
                                  have hcz68_0 : w50.cell? ⟨gb325, 0, none⟩ = some (.slice A0_2 l0_2.length c0_2) := (blk_cell BK325.out 0).trans rfl
                                  have hfz68_0 := blk_frozen BK325.out 0
                                  have p341 : 0 ≤ (0 : Int) := (by omega)
                                  have q341 : 0 < (l0_2.length : Int) := of_decide_eq_true (by first | (with_reducible assumption) | assumption)
                                  obtain ⟨ad341, e341, hx341_0, hx341_1, hx341_2, hx341_3⟩ := at_T47 HR0_2.out 0 p341 q341
                                  cases e341
                                  have qi341 : (0 < l0_2.length) = True := eq_true (by omega)
                                  (try rw [show ((0 : Int)).toNat = 0 from rfl] at hx341_0)
                                  (try rw [show 0 * 4 = 0 from rfl] at hx341_0)
                                  (try rw [Addr.add_zero'] at hx341_0)
                                  (try rw [show ((0 : Int)).toNat = 0 from rfl] at hx341_1)
                                  (try rw [show 0 * 4 = 0 from rfl] at hx341_1)
                                  (try rw [Addr.add_zero'] at hx341_1)
                                  (try rw [show ((0 : Int)).toNat = 0 from rfl] at hx341_2)
                                  (try rw [show 0 * 4 = 0 from rfl] at hx341_2)
                                  (try rw [Addr.add_zero'] at hx341_2)
                                  (try rw [show ((0 : Int)).toNat = 0 from rfl] at hx341_3)
                                  (try rw [show 0 * 4 = 0 from rfl] at hx341_3)
                                  (try rw [Addr.add_zero'] at hx341_3)
                                  have hn341_0 : ad341.block ≠ gb340 := Nat.ne_of_lt (Nat.lt_of_lt_of_le (by have := World.block_lt_of_cell? _ _ hx341_0; first | rwa [add_block] at this | exact this) GW340.out)
                                  have hn341_1 : ad341.block ≠ gb340 := Nat.ne_of_lt (Nat.lt_of_lt_of_le (by have := World.block_lt_of_cell? _ _ hx341_0; first | rwa [add_block] at this | exact this) GW340.out)
                                  have hn341_2 : ad341.block ≠ gb340 := Nat.ne_of_lt (Nat.lt_of_lt_of_le (by have := World.block_lt_of_cell? _ _ hx341_0; first | rwa [add_block] at this | exact this) GW340.out)
                                  replace hx341_0 := (HB.out.cell (World.block_lt_of_cell? w _ hx341_0)).trans hx341_0
                                  replace hx341_1 := (HB.out.cell (World.block_lt_of_cell? w _ hx341_1)).trans hx341_1
                                  replace hx341_2 := (HB.out.cell (World.block_lt_of_cell? w _ hx341_2)).trans hx341_2
                                  replace hx341_3 := (HB.out.cell (World.block_lt_of_cell? w _ hx341_3)).trans hx341_3
                                  replace hx341_0 := (cell_far (p := ⟨gb340, 0, none⟩) (by first | (rw [add_block]; exact hn341_0) | (show (Addr.add _ _).block ≠ _; rw [add_block]; exact hn341_0) | exact hn341_0) (.int .u8 ((rd_T61 l0_1 x81_2).f0))).trans hx341_0
                                  replace hx341_1 := (cell_far (p := ⟨gb340, 0, none⟩) (by first | (rw [add_block]; exact hn341_0) | (show (Addr.add _ _).block ≠ _; rw [add_block]; exact hn341_0) | exact hn341_0) (.int .u8 ((rd_T61 l0_1 x81_2).f0))).trans hx341_1
                                  replace hx341_2 := (cell_far (p := ⟨gb340, 0, none⟩) (by first | (rw [add_block]; exact hn341_0) | (show (Addr.add _ _).block ≠ _; rw [add_block]; exact hn341_0) | exact hn341_0) (.int .u8 ((rd_T61 l0_1 x81_2).f0))).trans hx341_2
                                  replace hx341_3 := (cell_far (p := ⟨gb340, 0, none⟩) (by first | (rw [add_block]; exact hn341_0) | (show (Addr.add _ _).block ≠ _; rw [add_block]; exact hn341_0) | exact hn341_0) (.int .u8 ((rd_T61 l0_1 x81_2).f0))).trans hx341_3
                                  replace hx341_0 := (cell_far (p := ⟨gb340, 1, none⟩) (by first | (rw [add_block]; exact hn341_1) | (show (Addr.add _ _).block ≠ _; rw [add_block]; exact hn341_1) | exact hn341_1) (.int .i64 ((rd_T61 l0_1 x81_2).f1))).trans hx341_0
                                  replace hx341_1 := (cell_far (p := ⟨gb340, 1, none⟩) (by first | (rw [add_block]; exact hn341_1) | (show (Addr.add _ _).block ≠ _; rw [add_block]; exact hn341_1) | exact hn341_1) (.int .i64 ((rd_T61 l0_1 x81_2).f1))).trans hx341_1
                                  replace hx341_2 := (cell_far (p := ⟨gb340, 1, none⟩) (by first | (rw [add_block]; exact hn341_1) | (show (Addr.add _ _).block ≠ _; rw [add_block]; exact hn341_1) | exact hn341_1) (.int .i64 ((rd_T61 l0_1 x81_2).f1))).trans hx341_2
                                  replace hx341_3 := (cell_far (p := ⟨gb340, 1, none⟩) (by first | (rw [add_block]; exact hn341_1) | (show (Addr.add _ _).block ≠ _; rw [add_block]; exact hn341_1) | exact hn341_1) (.int .i64 ((rd_T61 l0_1 x81_2).f1))).trans hx341_3
                                  replace hx341_0 := (cell_far (p := ⟨gb340, 2, none⟩) (by first | (rw [add_block]; exact hn341_2) | (show (Addr.add _ _).block ≠ _; rw [add_block]; exact hn341_2) | exact hn341_2) (.int .i64 ((rd_T61 l0_1 x81_2).f2))).trans hx341_0
                                  replace hx341_1 := (cell_far (p := ⟨gb340, 2, none⟩) (by first | (rw [add_block]; exact hn341_2) | (show (Addr.add _ _).block ≠ _; rw [add_block]; exact hn341_2) | exact hn341_2) (.int .i64 ((rd_T61 l0_1 x81_2).f2))).trans hx341_1
                                  replace hx341_2 := (cell_far (p := ⟨gb340, 2, none⟩) (by first | (rw [add_block]; exact hn341_2) | (show (Addr.add _ _).block ≠ _; rw [add_block]; exact hn341_2) | exact hn341_2) (.int .i64 ((rd_T61 l0_1 x81_2).f2))).trans hx341_2
                                  replace hx341_3 := (cell_far (p := ⟨gb340, 2, none⟩) (by first | (rw [add_block]; exact hn341_2) | (show (Addr.add _ _).block ≠ _; rw [add_block]; exact hn341_2) | exact hn341_2) (.int .i64 ((rd_T61 l0_1 x81_2).f2))).trans hx341_3
                                  clear hn341_0
                                  clear hn341_1
                                  clear hn341_2
                                  replace p341 := eq_true p341
                                  replace q341 := eq_true q341
                                  go_wp2
                                  go_meet
                                  case rel => exact ⟨_, (true), (by first | rfl | (simp; done) | (simp [*]; done)), H', ⟨by have := HK1.out; have := HK2.out; first | omega | exact Nat.le_refl _⟩, ⟨by (with_reducible repeat (first | apply Kd.R_alloc | apply Kd.R_drewN | apply Kd.R_drew)); exact Kd.R_mono (Kd.R_far (p := ⟨gb340, 2, none⟩) (Kd.R_far (p := ⟨gb340, 1, none⟩) (Kd.R_far (p := ⟨gb340, 0, none⟩) (Kd.R_types HO_4.out BK340.out (by decide)) (fun _ hk => hk.2) (.int .u8 ((rd_T61 l0_1 x81_2).f0))) (fun _ hk => hk.2) (.int .i64 ((rd_T61 l0_1 x81_2).f1))) (fun _ hk => hk.2) (.int .i64 ((rd_T61 l0_1 x81_2).f2))) (fun _ hk => trivial)⟩, ⟨by (with_reducible repeat (first | refine blk_drewN ?_ _ | refine blk_drew ?_ | refine blk_alloc ?_ _)); refine blk_far ?_ NB324_340.out _; (with_reducible repeat (first | refine blk_drewN ?_ _ | refine blk_drew ?_ | refine blk_alloc ?_ _)); refine blk_far ?_ NB324_340.out _; (with_reducible repeat (first | refine blk_drewN ?_ _ | refine blk_drew ?_ | refine blk_alloc ?_ _)); refine blk_far ?_ NB324_340.out _; (with_reducible repeat (first | refine blk_drewN ?_ _ | refine blk_drew ?_ | refine blk_alloc ?_ _)); exact BK324.out⟩, ⟨by (with_reducible repeat (first | refine blk_drewN ?_ _ | refine blk_drew ?_ | refine blk_alloc ?_ _)); refine blk_far ?_ NB325_340.out _; (with_reducible repeat (first | refine blk_drewN ?_ _ | refine blk_drew ?_ | refine blk_alloc ?_ _)); refine blk_far ?_ NB325_340.out _; (with_reducible repeat (first | refine blk_drewN ?_ _ | refine blk_drew ?_ | refine blk_alloc ?_ _)); refine blk_far ?_ NB325_340.out _; (with_reducible repeat (first | refine blk_drewN ?_ _ | refine blk_drew ?_ | refine blk_alloc ?_ _)); exact BK325.out⟩, ⟨by (with_reducible repeat (first | refine blk_drewN ?_ _ | refine blk_drew ?_ | refine blk_alloc ?_ _)); refine blk_put (cs := #[.int .u8 ((rd_T61 l0_1 x81_2).f0), .int .i64 ((rd_T61 l0_1 x81_2).f1), .int .i64 0]) ?_ 2 _ rfl; (with_reducible repeat (first | refine blk_drewN ?_ _ | refine blk_drew ?_ | refine blk_alloc ?_ _)); refine blk_put (cs := #[.int .u8 ((rd_T61 l0_1 x81_2).f0), .int .i64 0, .int .i64 0]) ?_ 1 _ rfl; (with_reducible repeat (first | refine blk_drewN ?_ _ | refine blk_drew ?_ | refine blk_alloc ?_ _)); refine blk_put (cs := #[.int .u8 0, .int .i64 0, .int .i64 0]) ?_ 0 _ rfl; (with_reducible repeat (first | refine blk_drewN ?_ _ | refine blk_drew ?_ | refine blk_alloc ?_ _)); exact BK340.out⟩, ⟨by repeat (first | (with_reducible first | exact HB.out | apply below_alloc | apply pw_below_drewN | apply below_drew1 | refine below_set ?_ GE324.out | refine below_set ?_ GE325.out | refine below_set ?_ GE340.out) | exact HB.out)⟩⟩
                                · rw [if_neg c63] at H
                                  have c63b0 : decide (x81_2 < ((rd_T47 l0_2 0).f1)) = false := decide_eq_false c63
                                  clear c63
                                  have H' := Aside0.mk H
                                  clear H
                                  have hnb69 := NB340_324.out
                                  have hnc69 := NB324_340.out
                                  have hnb70 := NB340_325.out
                                  have hnc70 := NB325_340.out
                                  have hcz71_0 : w50.cell? ⟨gb340, 0, none⟩ = some (.int .u8 0) := (blk_cell BK340.out 0).trans rfl
                                  have hcz71_1 : w50.cell? ⟨gb340, 1, none⟩ = some (.int .i64 0) := (blk_cell BK340.out 1).trans rfl
                                  have hcz71_2 : w50.cell? ⟨gb340, 2, none⟩ = some (.int .i64 0) := (blk_cell BK340.out 2).trans rfl
                                  have hfz71_0 := blk_frozen BK340.out 0
                                  have hfz71_1 := blk_frozen BK340.out 1
                                  have hfz71_2 := blk_frozen BK340.out 2
                                  have hnb72 := NB325_324.out
                                  have hnc72 := NB324_325.out
                                  have hcz73_0 : w50.cell? ⟨gb325, 0, none⟩ = some (.slice A0_2 l0_2.length c0_2) := (blk_cell BK325.out 0).trans rfl
                                  have hfz73_0 := blk_frozen BK325.out 0
                                  have p341 : 0 ≤ (0 : Int) := (by omega)
                                  have q341 : 0 < (l0_2.length : Int) := of_decide_eq_true (by first | (with_reducible assumption) | assumption)
                                  obtain ⟨ad341, e341, hx341_0, hx341_1, hx341_2, hx341_3⟩ := at_T47 HR0_2.out 0 p341 q341
                                  cases e341
                                  have qi341 : (0 < l0_2.length) = True := eq_true (by omega)
                                  (try rw [show ((0 : Int)).toNat = 0 from rfl] at hx341_0)
                                  (try rw [show 0 * 4 = 0 from rfl] at hx341_0)
                                  (try rw [Addr.add_zero'] at hx341_0)
                                  (try rw [show ((0 : Int)).toNat = 0 from rfl] at hx341_1)
                                  (try rw [show 0 * 4 = 0 from rfl] at hx341_1)
                                  (try rw [Addr.add_zero'] at hx341_1)
                                  (try rw [show ((0 : Int)).toNat = 0 from rfl] at hx341_2)
                                  (try rw [show 0 * 4 = 0 from rfl] at hx341_2)
                                  (try rw [Addr.add_zero'] at hx341_2)
                                  (try rw [show ((0 : Int)).toNat = 0 from rfl] at hx341_3)
                                  (try rw [show 0 * 4 = 0 from rfl] at hx341_3)
                                  (try rw [Addr.add_zero'] at hx341_3)
                                  have hn341_0 : ad341.block ≠ gb340 := Nat.ne_of_lt (Nat.lt_of_lt_of_le (by have := World.block_lt_of_cell? _ _ hx341_0; first | rwa [add_block] at this | exact this) GW340.out)
                                  have hn341_1 : ad341.block ≠ gb340 := Nat.ne_of_lt (Nat.lt_of_lt_of_le (by have := World.block_lt_of_cell? _ _ hx341_0; first | rwa [add_block] at this | exact this) GW340.out)
                                  have hn341_2 : ad341.block ≠ gb340 := Nat.ne_of_lt (Nat.lt_of_lt_of_le (by have := World.block_lt_of_cell? _ _ hx341_0; first | rwa [add_block] at this | exact this) GW340.out)
                                  replace hx341_0 := (HB.out.cell (World.block_lt_of_cell? w _ hx341_0)).trans hx341_0
                                  replace hx341_1 := (HB.out.cell (World.block_lt_of_cell? w _ hx341_1)).trans hx341_1
                                  replace hx341_2 := (HB.out.cell (World.block_lt_of_cell? w _ hx341_2)).trans hx341_2
                                  replace hx341_3 := (HB.out.cell (World.block_lt_of_cell? w _ hx341_3)).trans hx341_3
                                  replace hx341_0 := (cell_far (p := ⟨gb340, 0, none⟩) (by first | (rw [add_block]; exact hn341_0) | (show (Addr.add _ _).block ≠ _; rw [add_block]; exact hn341_0) | exact hn341_0) (.int .u8 ((rd_T61 l0_1 x81_2).f0))).trans hx341_0
                                  replace hx341_1 := (cell_far (p := ⟨gb340, 0, none⟩) (by first | (rw [add_block]; exact hn341_0) | (show (Addr.add _ _).block ≠ _; rw [add_block]; exact hn341_0) | exact hn341_0) (.int .u8 ((rd_T61 l0_1 x81_2).f0))).trans hx341_1
                                  replace hx341_2 := (cell_far (p := ⟨gb340, 0, none⟩) (by first | (rw [add_block]; exact hn341_0) | (show (Addr.add _ _).block ≠ _; rw [add_block]; exact hn341_0) | exact hn341_0) (.int .u8 ((rd_T61 l0_1 x81_2).f0))).trans hx341_2
                                  replace hx341_3 := (cell_far (p := ⟨gb340, 0, none⟩) (by first | (rw [add_block]; exact hn341_0) | (show (Addr.add _ _).block ≠ _; rw [add_block]; exact hn341_0) | exact hn341_0) (.int .u8 ((rd_T61 l0_1 x81_2).f0))).trans hx341_3
                                  replace hx341_0 := (cell_far (p := ⟨gb340, 1, none⟩) (by first | (rw [add_block]; exact hn341_1) | (show (Addr.add _ _).block ≠ _; rw [add_block]; exact hn341_1) | exact hn341_1) (.int .i64 ((rd_T61 l0_1 x81_2).f1))).trans hx341_0
                                  replace hx341_1 := (cell_far (p := ⟨gb340, 1, none⟩) (by first | (rw [add_block]; exact hn341_1) | (show (Addr.add _ _).block ≠ _; rw [add_block]; exact hn341_1) | exact hn341_1) (.int .i64 ((rd_T61 l0_1 x81_2).f1))).trans hx341_1
                                  replace hx341_2 := (cell_far (p := ⟨gb340, 1, none⟩) (by first | (rw [add_block]; exact hn341_1) | (show (Addr.add _ _).block ≠ _; rw [add_block]; exact hn341_1) | exact hn341_1) (.int .i64 ((rd_T61 l0_1 x81_2).f1))).trans hx341_2
                                  replace hx341_3 := (cell_far (p := ⟨gb340, 1, none⟩) (by first | (rw [add_block]; exact hn341_1) | (show (Addr.add _ _).block ≠ _; rw [add_block]; exact hn341_1) | exact hn341_1) (.int .i64 ((rd_T61 l0_1 x81_2).f1))).trans hx341_3
                                  replace hx341_0 := (cell_far (p := ⟨gb340, 2, none⟩) (by first | (rw [add_block]; exact hn341_2) | (show (Addr.add _ _).block ≠ _; rw [add_block]; exact hn341_2) | exact hn341_2) (.int .i64 ((rd_T61 l0_1 x81_2).f2))).trans hx341_0
                                  replace hx341_1 := (cell_far (p := ⟨gb340, 2, none⟩) (by first | (rw [add_block]; exact hn341_2) | (show (Addr.add _ _).block ≠ _; rw [add_block]; exact hn341_2) | exact hn341_2) (.int .i64 ((rd_T61 l0_1 x81_2).f2))).trans hx341_1
                                  replace hx341_2 := (cell_far (p := ⟨gb340, 2, none⟩) (by first | (rw [add_block]; exact hn341_2) | (show (Addr.add _ _).block ≠ _; rw [add_block]; exact hn341_2) | exact hn341_2) (.int .i64 ((rd_T61 l0_1 x81_2).f2))).trans hx341_2
                                  replace hx341_3 := (cell_far (p := ⟨gb340, 2, none⟩) (by first | (rw [add_block]; exact hn341_2) | (show (Addr.add _ _).block ≠ _; rw [add_block]; exact hn341_2) | exact hn341_2) (.int .i64 ((rd_T61 l0_1 x81_2).f2))).trans hx341_3
                                  clear hn341_0
                                  clear hn341_1
                                  clear hn341_2
                                  replace p341 := eq_true p341
                                  replace q341 := eq_true q341
                                  have p342 : 0 ≤ (0 : Int) := (by omega)
                                  have q342 : 0 < (l0_2.length : Int) := of_decide_eq_true (by first | (with_reducible assumption) | assumption)
                                  obtain ⟨ad342, e342, hx342_0, hx342_1, hx342_2, hx342_3⟩ := at_T47 HR0_2.out 0 p342 q342
                                  obtain rfl : ad341 = ad342 := (by injection e342)
                                  have qi342 : (0 < l0_2.length) = True := eq_true (by omega)
                                  (try rw [show ((0 : Int)).toNat = 0 from rfl] at hx342_0)
                                  (try rw [show 0 * 4 = 0 from rfl] at hx342_0)
                                  (try rw [Addr.add_zero'] at hx342_0)
                                  (try rw [show ((0 : Int)).toNat = 0 from rfl] at hx342_1)
                                  (try rw [show 0 * 4 = 0 from rfl] at hx342_1)
                                  (try rw [Addr.add_zero'] at hx342_1)
                                  (try rw [show ((0 : Int)).toNat = 0 from rfl] at hx342_2)
                                  (try rw [show 0 * 4 = 0 from rfl] at hx342_2)
                                  (try rw [Addr.add_zero'] at hx342_2)
                                  (try rw [show ((0 : Int)).toNat = 0 from rfl] at hx342_3)
                                  (try rw [show 0 * 4 = 0 from rfl] at hx342_3)
                                  (try rw [Addr.add_zero'] at hx342_3)
                                  have hn342_0 : ad341.block ≠ gb340 := Nat.ne_of_lt (Nat.lt_of_lt_of_le (by have := World.block_lt_of_cell? _ _ hx342_0; first | rwa [add_block] at this | exact this) GW340.out)
                                  have hn342_1 : ad341.block ≠ gb340 := Nat.ne_of_lt (Nat.lt_of_lt_of_le (by have := World.block_lt_of_cell? _ _ hx342_0; first | rwa [add_block] at this | exact this) GW340.out)
                                  have hn342_2 : ad341.block ≠ gb340 := Nat.ne_of_lt (Nat.lt_of_lt_of_le (by have := World.block_lt_of_cell? _ _ hx342_0; first | rwa [add_block] at this | exact this) GW340.out)
                                  replace hx342_0 := (HB.out.cell (World.block_lt_of_cell? w _ hx342_0)).trans hx342_0
                                  replace hx342_1 := (HB.out.cell (World.block_lt_of_cell? w _ hx342_1)).trans hx342_1
                                  replace hx342_2 := (HB.out.cell (World.block_lt_of_cell? w _ hx342_2)).trans hx342_2
                                  replace hx342_3 := (HB.out.cell (World.block_lt_of_cell? w _ hx342_3)).trans hx342_3
                                  replace hx342_0 := (cell_far (p := ⟨gb340, 0, none⟩) (by first | (rw [add_block]; exact hn342_0) | (show (Addr.add _ _).block ≠ _; rw [add_block]; exact hn342_0) | exact hn342_0) (.int .u8 ((rd_T61 l0_1 x81_2).f0))).trans hx342_0
                                  replace hx342_1 := (cell_far (p := ⟨gb340, 0, none⟩) (by first | (rw [add_block]; exact hn342_0) | (show (Addr.add _ _).block ≠ _; rw [add_block]; exact hn342_0) | exact hn342_0) (.int .u8 ((rd_T61 l0_1 x81_2).f0))).trans hx342_1
                                  replace hx342_2 := (cell_far (p := ⟨gb340, 0, none⟩) (by first | (rw [add_block]; exact hn342_0) | (show (Addr.add _ _).block ≠ _; rw [add_block]; exact hn342_0) | exact hn342_0) (.int .u8 ((rd_T61 l0_1 x81_2).f0))).trans hx342_2
                                  replace hx342_3 := (cell_far (p := ⟨gb340, 0, none⟩) (by first | (rw [add_block]; exact hn342_0) | (show (Addr.add _ _).block ≠ _; rw [add_block]; exact hn342_0) | exact hn342_0) (.int .u8 ((rd_T61 l0_1 x81_2).f0))).trans hx342_3
                                  replace hx342_0 := (cell_far (p := ⟨gb340, 1, none⟩) (by first | (rw [add_block]; exact hn342_1) | (show (Addr.add _ _).block ≠ _; rw [add_block]; exact hn342_1) | exact hn342_1) (.int .i64 ((rd_T61 l0_1 x81_2).f1))).trans hx342_0
                                  replace hx342_1 := (cell_far (p := ⟨gb340, 1, none⟩) (by first | (rw [add_block]; exact hn342_1) | (show (Addr.add _ _).block ≠ _; rw [add_block]; exact hn342_1) | exact hn342_1) (.int .i64 ((rd_T61 l0_1 x81_2).f1))).trans hx342_1
                                  replace hx342_2 := (cell_far (p := ⟨gb340, 1, none⟩) (by first | (rw [add_block]; exact hn342_1) | (show (Addr.add _ _).block ≠ _; rw [add_block]; exact hn342_1) | exact hn342_1) (.int .i64 ((rd_T61 l0_1 x81_2).f1))).trans hx342_2
                                  replace hx342_3 := (cell_far (p := ⟨gb340, 1, none⟩) (by first | (rw [add_block]; exact hn342_1) | (show (Addr.add _ _).block ≠ _; rw [add_block]; exact hn342_1) | exact hn342_1) (.int .i64 ((rd_T61 l0_1 x81_2).f1))).trans hx342_3
                                  replace hx342_0 := (cell_far (p := ⟨gb340, 2, none⟩) (by first | (rw [add_block]; exact hn342_2) | (show (Addr.add _ _).block ≠ _; rw [add_block]; exact hn342_2) | exact hn342_2) (.int .i64 ((rd_T61 l0_1 x81_2).f2))).trans hx342_0
                                  replace hx342_1 := (cell_far (p := ⟨gb340, 2, none⟩) (by first | (rw [add_block]; exact hn342_2) | (show (Addr.add _ _).block ≠ _; rw [add_block]; exact hn342_2) | exact hn342_2) (.int .i64 ((rd_T61 l0_1 x81_2).f2))).trans hx342_1
                                  replace hx342_2 := (cell_far (p := ⟨gb340, 2, none⟩) (by first | (rw [add_block]; exact hn342_2) | (show (Addr.add _ _).block ≠ _; rw [add_block]; exact hn342_2) | exact hn342_2) (.int .i64 ((rd_T61 l0_1 x81_2).f2))).trans hx342_2
                                  replace hx342_3 := (cell_far (p := ⟨gb340, 2, none⟩) (by first | (rw [add_block]; exact hn342_2) | (show (Addr.add _ _).block ≠ _; rw [add_block]; exact hn342_2) | exact hn342_2) (.int .i64 ((rd_T61 l0_1 x81_2).f2))).trans hx342_3
                                  clear hn342_0
                                  clear hn342_1
                                  clear hn342_2
                                  replace p342 := eq_true p342
                                  replace q342 := eq_true q342
                                  go_wp2
                                  go_meet
                                  case rel => exact ⟨_, (decide (x81_2 ≥ ((rd_T47 l0_2 0).f2))), (by first | rfl | (simp; done) | (simp [*]; done)), H', ⟨by have := HK1.out; have := HK2.out; first | omega | exact Nat.le_refl _⟩, ⟨by (with_reducible repeat (first | apply Kd.R_alloc | apply Kd.R_drewN | apply Kd.R_drew)); exact Kd.R_mono (Kd.R_far (p := ⟨gb340, 2, none⟩) (Kd.R_far (p := ⟨gb340, 1, none⟩) (Kd.R_far (p := ⟨gb340, 0, none⟩) (Kd.R_types HO_4.out BK340.out (by decide)) (fun _ hk => hk.2) (.int .u8 ((rd_T61 l0_1 x81_2).f0))) (fun _ hk => hk.2) (.int .i64 ((rd_T61 l0_1 x81_2).f1))) (fun _ hk => hk.2) (.int .i64 ((rd_T61 l0_1 x81_2).f2))) (fun _ hk => trivial)⟩, ⟨by (with_reducible repeat (first | refine blk_drewN ?_ _ | refine blk_drew ?_ | refine blk_alloc ?_ _)); refine blk_far ?_ NB324_340.out _; (with_reducible repeat (first | refine blk_drewN ?_ _ | refine blk_drew ?_ | refine blk_alloc ?_ _)); refine blk_far ?_ NB324_340.out _; (with_reducible repeat (first | refine blk_drewN ?_ _ | refine blk_drew ?_ | refine blk_alloc ?_ _)); refine blk_far ?_ NB324_340.out _; (with_reducible repeat (first | refine blk_drewN ?_ _ | refine blk_drew ?_ | refine blk_alloc ?_ _)); exact BK324.out⟩, ⟨by (with_reducible repeat (first | refine blk_drewN ?_ _ | refine blk_drew ?_ | refine blk_alloc ?_ _)); refine blk_far ?_ NB325_340.out _; (with_reducible repeat (first | refine blk_drewN ?_ _ | refine blk_drew ?_ | refine blk_alloc ?_ _)); refine blk_far ?_ NB325_340.out _; (with_reducible repeat (first | refine blk_drewN ?_ _ | refine blk_drew ?_ | refine blk_alloc ?_ _)); refine blk_far ?_ NB325_340.out _; (with_reducible repeat (first | refine blk_drewN ?_ _ | refine blk_drew ?_ | refine blk_alloc ?_ _)); exact BK325.out⟩, ⟨by (with_reducible repeat (first | refine blk_drewN ?_ _ | refine blk_drew ?_ | refine blk_alloc ?_ _)); refine blk_put (cs := #[.int .u8 ((rd_T61 l0_1 x81_2).f0), .int .i64 ((rd_T61 l0_1 x81_2).f1), .int .i64 0]) ?_ 2 _ rfl; (with_reducible repeat (first | refine blk_drewN ?_ _ | refine blk_drew ?_ | refine blk_alloc ?_ _)); refine blk_put (cs := #[.int .u8 ((rd_T61 l0_1 x81_2).f0), .int .i64 0, .int .i64 0]) ?_ 1 _ rfl; (with_reducible repeat (first | refine blk_drewN ?_ _ | refine blk_drew ?_ | refine blk_alloc ?_ _)); refine blk_put (cs := #[.int .u8 0, .int .i64 0, .int .i64 0]) ?_ 0 _ rfl; (with_reducible repeat (first | refine blk_drewN ?_ _ | refine blk_drew ?_ | refine blk_alloc ?_ _)); exact BK340.out⟩, ⟨by repeat (first | (with_reducible first | exact HB.out | apply below_alloc | apply pw_below_drewN | apply below_drew1 | refine below_set ?_ GE324.out | refine below_set ?_ GE325.out | refine below_set ?_ GE340.out) | exact HB.out)⟩⟩
                              · rw [if_neg c62] at H
                                exact absurd H (by simp)
                        case rest =>
                          clear HC49
                          try clear c1
                          try clear c2
                          try clear p2
                          try clear c3
                          try clear p3
                          try clear q3
                          try clear hx3
                          try clear qi3
                          try clear hf3
                          try clear c4
                          try clear c4b0
                          try clear c4b1
                          try clear c5
                          try clear c5b0
                          try clear c5b1
                          try clear c6
                          try clear p6
                          try clear c7
                          try clear c9
                          try clear c15
                          try clear c17
                          try clear c17b0
                          try clear c19
                          try clear c24
                          try clear c24b0
                          try clear c25
                          try clear c25b0
                          try clear c26
                          try clear c26b0
                          try clear c27
                          try clear c27b0
                          try clear c28
                          try clear c28b0
                          try clear c29
                          try clear c29b0
                          try clear c30
                          try clear c30b0
                          try clear c31
                          try clear c33
                          try clear c33b0
                          try clear p33
                          try clear q33
                          try clear hx33
                          try clear c34
                          try clear p34
                          try clear q34
                          try clear hx34
                          try clear qi34
                          try clear c36
                          try clear c36b0
                          try clear c37
                          try clear c37b0
                          try clear p38
                          try clear q38
                          try clear hx38
                          try clear hf38
                          try clear c39
                          try clear c42
                          try clear c44
                          try clear c46
                          try clear c46b0
                          try clear c47
                          try clear c47b0
                          try clear c48
                          try clear c48b0
                          try clear c51
                          try clear c52
                          try clear c54
                          try clear c54b0
                          try clear c54b1
                          try clear c55
                          try clear c56
                          try clear c58
                          try clear c58b0
                          try clear c58b1
                          try clear c59
                          try clear c60
                          try clear c62
                          try clear c62b0
                          try clear c62b1
                          try clear c63
                          try clear c63b0
                          try clear c64
                          try clear p64
                          try clear c65
                          try clear c67
                          try clear c69
                          try clear c70
                          try clear c72
                          try clear hcz10_0
                          try clear hcz11_0
                          try clear hcz11_1
                          try clear hcz11_2
                          try clear hcz13_0
                          try clear hcz13_1
                          try clear hcz13_2
                          try clear hcz16_0
                          try clear hcz20_0
                          try clear hcz20_1
                          try clear hcz20_2
                          try clear hcz21_0
                          try clear hcz32_0
                          try clear hcz35_0
                          try clear hcz40_0
                          try clear hcz45_0
                          try clear hcz45_1
                          try clear hcz45_2
                          try clear hcz53_0
                          try clear hcz53_1
                          try clear hcz53_2
                          try clear hcz57_0
                          try clear hcz57_1
                          try clear hcz57_2
                          try clear hcz61_0
                          try clear hcz61_1
                          try clear hcz61_2
                          try clear hcz66_0
                          try clear hcz66_1
                          try clear hcz66_2
                          try clear hcz68_0
                          try clear hcz71_0
                          try clear hcz71_1
                          try clear hcz71_2
                          try clear hcz73_0
                          try clear hcz7_0
                          try clear hcz7_1
                          try clear hcz7_2
                          try clear hfz10_0
                          try clear hfz11_0
                          try clear hfz11_1
                          try clear hfz11_2
                          try clear hfz13_0
                          try clear hfz13_1
                          try clear hfz13_2
                          try clear hfz16_0
                          try clear hfz20_0
                          try clear hfz20_1
                          try clear hfz20_2
                          try clear hfz21_0
                          try clear hfz32_0
                          try clear hfz35_0
                          try clear hfz40_0
                          try clear hfz45_0
                          try clear hfz45_1
                          try clear hfz45_2
                          try clear hfz53_0
                          try clear hfz53_1
                          try clear hfz53_2
                          try clear hfz57_0
                          try clear hfz57_1
                          try clear hfz57_2
                          try clear hfz61_0
                          try clear hfz61_1
                          try clear hfz61_2
                          try clear hfz66_0
                          try clear hfz66_1
                          try clear hfz66_2
                          try clear hfz68_0
                          try clear hfz71_0
                          try clear hfz71_1
                          try clear hfz71_2
                          try clear hfz73_0
                          try clear hfz7_0
                          try clear hfz7_1
                          try clear hfz7_2
                          try clear hx334_0
                          try clear hx335_0
                          try clear hx335_1
                          try clear hx335_2
                          try clear hx335_3
                          try clear hx336_0
                          try clear hx336_1
                          try clear hx336_2
                          try clear hx336_3
                          try clear hx337_0
                          try clear hx339_0
                          try clear hx339_1
                          try clear hx339_2
                          try clear hx341_0
                          try clear hx341_1
                          try clear hx341_2
                          try clear hx341_3
                          try clear hx342_0
                          try clear hx342_1
                          try clear hx342_2
                          try clear hx342_3
                          try clear hx38_0
                          try clear p2
                          try clear p3
                          try clear p33
                          try clear p334
                          try clear p335
                          try clear p336
                          try clear p337
                          try clear p339
                          try clear p341
                          try clear p342
                          try clear p38
                          try clear p6
                          try clear q3
                          try clear q33
                          try clear q334
                          try clear q335
                          try clear q336
                          try clear q337
                          try clear q339
                          try clear q341
                          try clear q342
                          try clear q38
                          obtain ⟨kq, x111_48, rfl, HA, HJ48, HO_4, BK324, BK325, BK340, HB⟩ := hcut
                          cases kq with
                          | zero => exact absurd HA.out (by simp [monikerlaw4_TreeTokens.j3])
                          | succ kj48 =>
                            have H := HA.out
                            clear HA
                            simp only [monikerlaw4_TreeTokens.j3] at H
                            by_cases c74 : x111_48 = true
                            · subst c74
                              have H1 : (if 0 ≤ x81_2 then (if x81_2 < (x4_1.length : Int) then (if (rd x4_1 x81_2) = 0 then (monikerlaw4_TreeTokens.l2 kj48 x4_1 l0_1 (l0_1.length : Int) (wrap64 (x81_2 + 1)) l0_2) else (some false)) else (none)) else (none)) = some r := by rw [if_pos rfl] at H; exact H
                              clear H
                              have H := H1
                              clear H1
                              by_cases c75 : 0 ≤ x81_2
                              · rw [if_pos c75] at H
                                have c75b0 : decide (0 ≤ x81_2) = true := decide_eq_true c75
                                clear c75
                                by_cases c76 : x81_2 < (x4_1.length : Int)
                                · rw [if_pos c76] at H
                                  have c76b0 : decide (x81_2 < (x4_1.length : Int)) = true := decide_eq_true c76
                                  clear c76
                                  by_cases c77 : (rd x4_1 x81_2) = 0
                                  · rw [if_pos c77] at H
                                    have c77b0 : ((rd x4_1 x81_2) == 0) = true := beq_iff_eq.mpr c77
                                    have c77b1 : ((rd x4_1 x81_2) != 0) = false := bne_eq_false_iff_eq.mpr c77
                                    clear c77
                                    have H' := Aside0.mk H
                                    clear H
                                    obtain ⟨Ao78, co78, eo78⟩ := Kd.R_slice HO_4.out
                                    subst eo78
                                    have p343 : 0 ≤ (x81_2 : Int) := of_decide_eq_true (by first | (with_reducible assumption) | assumption)
                                    have q343 : x81_2 < (x4_1.length : Int) := of_decide_eq_true (by first | (with_reducible assumption) | assumption)
                                    obtain ⟨ad343, e343, hx343_0⟩ := Kd.at_int (Kd.R_reads' HO_4.out).2.2 x81_2 p343 q343
                                    cases e343
                                    replace p343 := eq_true p343
                                    replace q343 := eq_true q343
                                    go_wp2
                                    go_roundg kj48
                                    case measure => have := HK1.out; have := HK2.out; have := HJ48.out; omega
                                    case rel => exact ⟨(wrap64 (x81_2 + 1)), (by first | rfl | (simp; done) | (simp [*]; done)), H', ⟨by have := HK1.out; have := HK2.out; have := HJ48.out; omega⟩, ⟨by (with_reducible repeat (first | apply Kd.R_alloc | apply Kd.R_drewN | apply Kd.R_drew)); exact HO_4.out⟩, ⟨by (with_reducible repeat (first | refine blk_drewN ?_ _ | refine blk_drew ?_ | refine blk_alloc ?_ _)); exact BK324.out⟩, ⟨by (with_reducible repeat (first | refine blk_drewN ?_ _ | refine blk_drew ?_ | refine blk_alloc ?_ _)); exact BK325.out⟩, ⟨by repeat (first | (with_reducible first | exact HB.out | apply below_alloc | apply pw_below_drewN | apply below_drew1 | refine below_set ?_ GE324.out | refine below_set ?_ GE325.out | refine below_set ?_ GE340.out) | exact HB.out)⟩⟩
                                  · rw [if_neg c77] at H
                                    have c77b0 : ((rd x4_1 x81_2) == 0) = false := beq_eq_false_iff_ne.mpr c77
                                    have c77b1 : ((rd x4_1 x81_2) != 0) = true := bne_iff_ne.mpr c77
                                    obtain rfl := Option.some.inj H
                                    obtain ⟨Ao79, co79, eo79⟩ := Kd.R_slice HO_4.out
                                    subst eo79
                                    have p343 : 0 ≤ (x81_2 : Int) := of_decide_eq_true (by first | (with_reducible assumption) | assumption)
                                    have q343 : x81_2 < (x4_1.length : Int) := of_decide_eq_true (by first | (with_reducible assumption) | assumption)
                                    obtain ⟨ad343, e343, hx343_0⟩ := Kd.at_int (Kd.R_reads' HO_4.out).2.2 x81_2 p343 q343
                                    cases e343
                                    replace p343 := eq_true p343
                                    replace q343 := eq_true q343
                                    go_wp2
                                    go_ret
                                    exact ⟨by first | rfl | (simp [errW_none, errW_some] <;> rfl) | (simp [*, errW_none, errW_some] <;> rfl), by repeat (first | (with_reducible first | exact HB.out | apply below_alloc | apply pw_below_drewN | apply below_drew1 | refine below_set ?_ GE324.out | refine below_set ?_ GE325.out | refine below_set ?_ GE340.out) | exact HB.out)⟩
                                · rw [if_neg c76] at H
                                  exact absurd H (by simp)
                              · rw [if_neg c75] at H
                                exact absurd H (by simp)
                            · replace c74 := Bool.eq_false_iff.mpr c74
                              subst c74
                              have H1 : (if 0 ≤ x81_2 then (if x81_2 < (x4_1.length : Int) then (if (rd x4_1 x81_2) = 1 then (monikerlaw4_TreeTokens.l2 kj48 x4_1 l0_1 (l0_1.length : Int) (wrap64 (x81_2 + 1)) l0_2) else (some false)) else (none)) else (none)) = some r := by rw [if_neg (show ¬ (false = true) by decide)] at H; exact H
                              clear H
                              have H := H1
                              clear H1
                              by_cases c80 : 0 ≤ x81_2
                              · rw [if_pos c80] at H
                                have c80b0 : decide (0 ≤ x81_2) = true := decide_eq_true c80
                                clear c80
                                by_cases c81 : x81_2 < (x4_1.length : Int)
                                · rw [if_pos c81] at H
                                  have c81b0 : decide (x81_2 < (x4_1.length : Int)) = true := decide_eq_true c81
                                  clear c81
                                  by_cases c82 : (rd x4_1 x81_2) = 1
                                  · rw [if_pos c82] at H
                                    have c82b0 : ((rd x4_1 x81_2) == 1) = true := beq_iff_eq.mpr c82
                                    have c82b1 : ((rd x4_1 x81_2) != 1) = false := bne_eq_false_iff_eq.mpr c82
                                    clear c82
                                    have H' := Aside0.mk H
                                    clear H
                                    obtain ⟨Ao83, co83, eo83⟩ := Kd.R_slice HO_4.out
                                    subst eo83
                                    have p344 : 0 ≤ (x81_2 : Int) := of_decide_eq_true (by first | (with_reducible assumption) | assumption)
                                    have q344 : x81_2 < (x4_1.length : Int) := of_decide_eq_true (by first | (with_reducible assumption) | assumption)
                                    obtain ⟨ad344, e344, hx344_0⟩ := Kd.at_int (Kd.R_reads' HO_4.out).2.2 x81_2 p344 q344
                                    cases e344
                                    replace p344 := eq_true p344
                                    replace q344 := eq_true q344
                                    go_wp2
                                    go_roundg kj48
                                    case measure => have := HK1.out; have := HK2.out; have := HJ48.out; omega
                                    case rel => exact ⟨(wrap64 (x81_2 + 1)), (by first | rfl | (simp; done) | (simp [*]; done)), H', ⟨by have := HK1.out; have := HK2.out; have := HJ48.out; omega⟩, ⟨by (with_reducible repeat (first | apply Kd.R_alloc | apply Kd.R_drewN | apply Kd.R_drew)); exact HO_4.out⟩, ⟨by (with_reducible repeat (first | refine blk_drewN ?_ _ | refine blk_drew ?_ | refine blk_alloc ?_ _)); exact BK324.out⟩, ⟨by (with_reducible repeat (first | refine blk_drewN ?_ _ | refine blk_drew ?_ | refine blk_alloc ?_ _)); exact BK325.out⟩, ⟨by repeat (first | (with_reducible first | exact HB.out | apply below_alloc | apply pw_below_drewN | apply below_drew1 | refine below_set ?_ GE324.out | refine below_set ?_ GE325.out | refine below_set ?_ GE340.out) | exact HB.out)⟩⟩
                                  · rw [if_neg c82] at H
                                    have c82b0 : ((rd x4_1 x81_2) == 1) = false := beq_eq_false_iff_ne.mpr c82
                                    have c82b1 : ((rd x4_1 x81_2) != 1) = true := bne_iff_ne.mpr c82
                                    obtain rfl := Option.some.inj H
                                    obtain ⟨Ao84, co84, eo84⟩ := Kd.R_slice HO_4.out
                                    subst eo84
                                    have p344 : 0 ≤ (x81_2 : Int) := of_decide_eq_true (by first | (with_reducible assumption) | assumption)
                                    have q344 : x81_2 < (x4_1.length : Int) := of_decide_eq_true (by first | (with_reducible assumption) | assumption)
                                    obtain ⟨ad344, e344, hx344_0⟩ := Kd.at_int (Kd.R_reads' HO_4.out).2.2 x81_2 p344 q344
                                    cases e344
                                    replace p344 := eq_true p344
                                    replace q344 := eq_true q344
                                    go_wp2
                                    go_ret
                                    exact ⟨by first | rfl | (simp [errW_none, errW_some] <;> rfl) | (simp [*, errW_none, errW_some] <;> rfl), by repeat (first | (with_reducible first | exact HB.out | apply below_alloc | apply pw_below_drewN | apply below_drew1 | refine below_set ?_ GE324.out | refine below_set ?_ GE325.out | refine below_set ?_ GE340.out) | exact HB.out)⟩
                                · rw [if_neg c81] at H
                                  exact absurd H (by simp)
                              · rw [if_neg c80] at H
                                exact absurd H (by simp)
                      · rw [if_neg c48] at H
                        exact absurd H (by simp)
                    · rw [if_neg c47] at H
                      exact absurd H (by simp)
                  · rw [if_neg c46] at H
                    have c46b0 : decide (x81_2 < (l0_1.length : Int)) = false := decide_eq_false c46
                    clear c46
                    obtain rfl := Option.some.inj H
                    go_wp2
                    go_ret
                    exact ⟨by first | rfl | (simp [errW_none, errW_some] <;> rfl) | (simp [*, errW_none, errW_some] <;> rfl), by repeat (first | (with_reducible first | exact HB.out | apply below_alloc | apply pw_below_drewN | apply below_drew1 | refine below_set ?_ GE324.out | refine below_set ?_ GE325.out) | exact HB.out)⟩
      · rw [if_neg c5] at H
        exact absurd H (by simp)
    · rw [if_neg c4] at H
      exact absurd H (by simp)
  · replace c3 := Bool.eq_false_iff.mpr c3
    subst c3
    have H1 : ((tree_Valid.f k l0_2 (l0_1.length : Int)).bind fun t327 => (some (!t327))) = some r := by rw [if_neg (show ¬ (false = true) by decide)] at H; exact H
    clear H
    have H := H1
    clear H1
    replace H := Option.bind_eq_some_iff.mp H
    obtain ⟨t327, A850, H⟩ := H
    replace H : (some (!t327)) = some r := H
    have A85 := Aside0.mk A850
    clear A850
    obtain rfl := Option.some.inj H
    go_enter Try.func15, Try.ntmps15
    go_wp2_with (first | ((with_reducible refine gate_dst (N := 1) rfl ?_); refine box_event ?hg (N := 1) ?hd (cs := #[.string a0_0, .slice A0_1 l0_1.length c0_1, .slice A0_2 l0_2.length c0_2]) (t := 27) ?hr ?_; (case hd => rfl); (case hg => rfl); (case hr => first | (go_simp; done) | (go_simp; rfl)); intro gb324 hg w86 hbox hb; have n0_ := Aside0.mk (below_step (by repeat (first | (with_reducible first | exact HB.out | apply below_alloc | apply pw_below_drewN | apply below_drew1) | exact HB.out)) hb); have n1_ := Aside0.mk (hbox); have n2_ := Aside0.mk ((by rw [hg]; exact (below_size (by repeat (first | (with_reducible first | exact HB.out | apply below_alloc | apply pw_below_drewN | apply below_drew1) | exact HB.out))) : w.heap.size ≤ gb324)); have n3_ := Aside0.mk ((by rw [hg]; exact (below_size (by repeat (first | (with_reducible first | exact HB.out | apply below_alloc | apply pw_below_drewN | apply below_drew1) | exact HB.out))) : w.heap.size ≤ gb324)); clear HB; have HB := n0_; have BK324 := n1_; have GW324 := n2_; have GE324 := n3_; clear n0_ n1_ n2_ n3_; clear hb hbox hg; have hcz87_0 : w86.cell? ⟨gb324, 0, none⟩ = some (.string a0_0) := (blk_cell BK324.out 0).trans rfl; have hcz87_1 : w86.cell? ⟨gb324, 1, none⟩ = some (.slice A0_1 l0_1.length c0_1) := (blk_cell BK324.out 1).trans rfl; have hcz87_2 : w86.cell? ⟨gb324, 2, none⟩ = some (.slice A0_2 l0_2.length c0_2) := (blk_cell BK324.out 2).trans rfl; have hfz87_0 := blk_frozen BK324.out 0; have hfz87_1 := blk_frozen BK324.out 1; have hfz87_2 := blk_frozen BK324.out 2) | ((with_reducible refine gate_dst (N := 3) rfl ?_); refine box_event ?hg (N := 3) ?hd (cs := #[.slice none 0 0]) (t := 25) ?hr ?_; (case hd => rfl); (case hg => rfl); (case hr => first | (go_simp; done) | (go_simp; rfl)); intro gb325 hg w88 hbox hb; have n0_ := Aside0.mk (blk_below (g := gb324) (o := .cells #[.string a0_0, .slice A0_1 l0_1.length c0_1, .slice A0_2 l0_2.length c0_2] 27 (0, 0)) (by (with_reducible repeat (first | refine blk_drewN ?_ _ | refine blk_drew ?_ | refine blk_alloc ?_ _)); exact BK324.out) hb); have n1_ := Aside0.mk (below_step (by repeat (first | (with_reducible first | exact HB.out | apply below_alloc | apply pw_below_drewN | apply below_drew1 | refine below_set ?_ GE324.out) | exact HB.out)) hb); have n2_ := Aside0.mk (hbox); have n3_ := Aside0.mk ((by rw [hg]; exact (below_size (by repeat (first | (with_reducible first | exact HB.out | apply below_alloc | apply pw_below_drewN | apply below_drew1 | refine below_set ?_ GE324.out) | exact HB.out))) : w.heap.size ≤ gb325)); have n4_ := Aside0.mk ((by rw [hg]; exact (below_size (by repeat (first | (with_reducible first | exact HB.out | apply below_alloc | apply pw_below_drewN | apply below_drew1 | refine below_set ?_ GE324.out) | exact HB.out))) : w.heap.size ≤ gb325)); have n5_ := Aside0.mk ((by rw [hg]; exact Nat.ne_of_lt (blk_lt (g := gb324) (o := .cells #[.string a0_0, .slice A0_1 l0_1.length c0_1, .slice A0_2 l0_2.length c0_2] 27 (0, 0)) (by (with_reducible repeat (first | refine blk_drewN ?_ _ | refine blk_drew ?_ | refine blk_alloc ?_ _)); exact BK324.out)) : gb324 ≠ gb325)); have n6_ := Aside0.mk ((by rw [hg]; exact Nat.ne_of_gt (blk_lt (g := gb324) (o := .cells #[.string a0_0, .slice A0_1 l0_1.length c0_1, .slice A0_2 l0_2.length c0_2] 27 (0, 0)) (by (with_reducible repeat (first | refine blk_drewN ?_ _ | refine blk_drew ?_ | refine blk_alloc ?_ _)); exact BK324.out)) : gb325 ≠ gb324)); clear BK324; clear HB; have BK324 := n0_; have HB := n1_; have BK325 := n2_; have GW325 := n3_; have GE325 := n4_; have NB324_325 := n5_; have NB325_324 := n6_; clear n0_ n1_ n2_ n3_ n4_ n5_ n6_; clear hb hbox hg; have hnb89 := NB325_324.out; have hnc89 := NB324_325.out; have hcz90_0 : w88.cell? ⟨gb325, 0, none⟩ = some (.slice none 0 0) := (blk_cell BK325.out 0).trans rfl; have hfz90_0 := blk_frozen BK325.out 0; have hcz91_0 : w88.cell? ⟨gb324, 0, none⟩ = some (.string a0_0) := (blk_cell BK324.out 0).trans rfl; have hcz91_1 : w88.cell? ⟨gb324, 1, none⟩ = some (.slice A0_1 l0_1.length c0_1) := (blk_cell BK324.out 1).trans rfl; have hcz91_2 : w88.cell? ⟨gb324, 2, none⟩ = some (.slice A0_2 l0_2.length c0_2) := (blk_cell BK324.out 2).trans rfl; have hfz91_0 := blk_frozen BK324.out 0; have hfz91_1 := blk_frozen BK324.out 1; have hfz91_2 := blk_frozen BK324.out 2) | ((with_reducible refine gate_callee (f := 42) rfl ?_); refine goesL_ (some 18) rfl rfl Try.func42 (by kernel_rfl) rfl #[.agg #[.slice A0_2 l0_2.length c0_2], .int .i64 (l0_1.length : Int)] rfl (by (try simp only [List.map_toArray, List.map_cons, List.map_nil]); first | done | rfl | (simp only [List.length_drop, List.length_take]; rfl)) ?_; (with_reducible refine (monikerref4_Valid.calls k _ _ l0_2 (l0_1.length : Int) false _ ?side1 ?side2 A2.out).mono ?_); (case side1 => exact Kd.C_below HR0_2.out (by repeat (first | (with_reducible first | exact HB.out | apply below_alloc | apply pw_below_drewN | apply below_drew1 | refine below_set ?_ GE324.out | refine below_set ?_ GE325.out) | exact HB.out))); (case side2 => exact HC0_2.out); rintro e w92 ⟨rfl, hb⟩; refine ⟨_, rfl, ?_⟩; have n0_ := Aside0.mk (blk_below (g := gb324) (o := .cells #[.string a0_0, .slice A0_1 l0_1.length c0_1, .slice A0_2 l0_2.length c0_2] 27 (0, 0)) (by (with_reducible repeat (first | refine blk_drewN ?_ _ | refine blk_drew ?_ | refine blk_alloc ?_ _)); refine blk_far ?_ NB324_325.out _; (with_reducible repeat (first | refine blk_drewN ?_ _ | refine blk_drew ?_ | refine blk_alloc ?_ _)); exact BK324.out) hb); have n1_ := Aside0.mk (blk_below (g := gb325) (o := .cells #[.slice A0_2 l0_2.length c0_2] 25 (0, 0)) (by (with_reducible repeat (first | refine blk_drewN ?_ _ | refine blk_drew ?_ | refine blk_alloc ?_ _)); refine blk_put (cs := #[.slice none 0 0]) ?_ 0 _ rfl; (with_reducible repeat (first | refine blk_drewN ?_ _ | refine blk_drew ?_ | refine blk_alloc ?_ _)); exact BK325.out) hb); have n2_ := Aside0.mk (below_step (by repeat (first | (with_reducible first | exact HB.out | apply below_alloc | apply pw_below_drewN | apply below_drew1 | refine below_set ?_ GE324.out | refine below_set ?_ GE325.out) | exact HB.out)) hb); clear BK324; clear BK325; clear HB; have BK324 := n0_; have BK325 := n1_; have HB := n2_; clear n0_ n1_ n2_; (try clear hb); (try clear hb2); (try clear hk); (try clear hi); have hcz93_0 : w92.cell? ⟨gb325, 0, none⟩ = some (.slice A0_2 l0_2.length c0_2) := (blk_cell BK325.out 0).trans rfl; have hfz93_0 := blk_frozen BK325.out 0; have hcz94_0 : w92.cell? ⟨gb324, 0, none⟩ = some (.string a0_0) := (blk_cell BK324.out 0).trans rfl; have hcz94_1 : w92.cell? ⟨gb324, 1, none⟩ = some (.slice A0_1 l0_1.length c0_1) := (blk_cell BK324.out 1).trans rfl; have hcz94_2 : w92.cell? ⟨gb324, 2, none⟩ = some (.slice A0_2 l0_2.length c0_2) := (blk_cell BK324.out 2).trans rfl; have hfz94_0 := blk_frozen BK324.out 0; have hfz94_1 := blk_frozen BK324.out 1; have hfz94_2 := blk_frozen BK324.out 2) | ((with_reducible refine gate_callee (f := 44) rfl ?_); refine goesL_ (some 24) rfl rfl Try.func44 (by kernel_rfl) rfl #[.agg #[.slice A0_2 l0_2.length c0_2], .int .i64 (l0_1.length : Int)] rfl (by (try simp only [List.map_toArray, List.map_cons, List.map_nil]); first | done | rfl | (simp only [List.length_drop, List.length_take]; rfl)) ?_; (with_reducible refine (tree_Valid.calls k _ _ l0_2 (l0_1.length : Int) t327 _ ?side1 ?side2 A85.out).mono ?_); (case side1 => repeat (first | exact (Kd.C_below HR0_2.out HB.out) | (with_reducible refine Kd.C_alloc ?_ _) | (with_reducible refine Kd.C_drewN ?_ _) | (with_reducible refine Kd.C_drew ?_))); (case side2 => exact HC0_2.out); rintro e w95 ⟨rfl, hb⟩; refine ⟨_, rfl, ?_⟩; have n0_ := Aside0.mk (blk_below (g := gb324) (o := .cells #[.string a0_0, .slice A0_1 l0_1.length c0_1, .slice A0_2 l0_2.length c0_2] 27 (0, 0)) (by (with_reducible repeat (first | refine blk_drewN ?_ _ | refine blk_drew ?_ | refine blk_alloc ?_ _)); exact BK324.out) hb); have n1_ := Aside0.mk (blk_below (g := gb325) (o := .cells #[.slice A0_2 l0_2.length c0_2] 25 (0, 0)) (by (with_reducible repeat (first | refine blk_drewN ?_ _ | refine blk_drew ?_ | refine blk_alloc ?_ _)); exact BK325.out) hb); have n2_ := Aside0.mk (below_step (by repeat (first | (with_reducible first | exact HB.out | apply below_alloc | apply pw_below_drewN | apply below_drew1 | refine below_set ?_ GE324.out | refine below_set ?_ GE325.out) | exact HB.out)) hb); clear BK324; clear BK325; clear HB; have BK324 := n0_; have BK325 := n1_; have HB := n2_; clear n0_ n1_ n2_; (try clear hb); (try clear hb2); (try clear hk); (try clear hi)))
    go_ret
    exact ⟨by first | rfl | (simp [errW_none, errW_some] <;> rfl) | (simp [*, errW_none, errW_some] <;> rfl), by repeat (first | (with_reducible first | exact HB.out | apply below_alloc | apply pw_below_drewN | apply below_drew1 | refine below_set ?_ GE324.out | refine below_set ?_ GE325.out) | exact HB.out)⟩

end Go.Proofs.Ytodldpdnhcafpaa.F

namespace Go.Proofs.Ytodldpdnhcafpaa.Q
open Go.RowKit Go.Proofs.YtodldpdnhcafpaaW.PrintWords Go.Proofs.YtodldpdnhcafpaaW.PrintLast Go.Proofs.YtodldpdnhcafpaaW.PrintMore
open Go.Proofs.Ytodldpdnhcafpaa.F Go.Proofs.Ytodldpdnhcafpaa.K
set_option linter.unusedSimpArgs false
set_option linter.unusedVariables false

theorem kw64 {x : Int} (h0 : -9223372036854775808 ≤ x) (h1 : x ≤ 9223372036854775807) : wrap64 x = x := by unfold wrap64; omega
/-- The kids' numbers up to the first that is out of order; whether none is. -/
def kgo (l : List S47) (en : Int) : Nat → List Int → Int → List Int × Bool
  | 0, pre, _ => (pre, true)
  | d + 1, pre, x => if x < en then (if (rd_T47 l x).f3 < 1 then (pre ++ [x], false) else if (rd_T47 l x).f3 > en - x then (pre ++ [x], false) else kgo l en d (pre ++ [x]) (x + (rd_T47 l x).f3)) else (pre, true)
def sizedB (l : List S47) (n : Int) : Bool := decide (0 ≤ n) && (decide (n < (l.length : Int)) && (decide (1 ≤ (rd_T47 l n).f3) && decide ((rd_T47 l n).f3 ≤ (l.length : Int) - n)))
def kspec (l : List S47) (n : Int) : List Int × Bool := if sizedB l n = true then kgo l (n + (rd_T47 l n).f3) l.length [] (n + 1) else ([], false)
def kidsOf (l : List S47) (n : Int) : List Int := if (kspec l n).2 = true then (kspec l n).1 else []

theorem sized_is (l : List S47) (hl : l.length ≤ 4398046511104) (n : Int) : tree_sized.f l n = some (sizedB l n) := by
  unfold tree_sized.f sizedB
  by_cases h1 : n ≥ 0
  · by_cases h2 : n < (l.length : Int)
    · rw [if_pos h1, if_pos h2, if_pos h1, kw64 (by omega) (by omega)]
      by_cases h3 : (rd_T47 l n).f3 ≥ 1
      · rw [if_pos h3]
        simp [h1, h2, show 1 ≤ (rd_T47 l n).f3 from h3]
      · rw [if_neg h3]
        simp [h1, h2, show ¬ 1 ≤ (rd_T47 l n).f3 from h3]
    · rw [if_pos h1, if_neg h2]; simp [h2]
  · rw [if_neg h1]; simp [show ¬ 0 ≤ n from h1]

theorem kids_loop (l : List S47) (hl : l.length ≤ 4398046511104) (n sz en : Int) (hen : en ≤ l.length) (he : wrap64 (n + sz) = en) (h0 : 0 ≤ en) (d : Nat) : ∀ (pre : List Int) (x : Int), 0 ≤ x → en - x ≤ d → (pre.length : Int) ≤ x → pre.length ≤ l.length →
    Ev (fun k => kids.l0 k en pre x l) (kgo l en d pre x) ∧ (kgo l en d pre x).1.length ≤ l.length ∧
    Ev (fun k => monikerref4_Kids.l0 k n sz pre x l) (if (kgo l en d pre x).2 = true then (kgo l en d pre x).1 else [], (kgo l en d pre x).2) := by
  induction d with
  | zero =>
    intro pre x hx hd hp hpl
    refine ⟨⟨1, fun m hm => ?_⟩, hpl, ⟨1, fun m hm => ?_⟩⟩
    · obtain ⟨k, rfl⟩ : ∃ j, m = j + 1 := ⟨m - 1, by omega⟩
      simp only [kids.l0, kgo]
      rw [if_neg (by omega)]
    · obtain ⟨k, rfl⟩ : ∃ j, m = j + 1 := ⟨m - 1, by omega⟩
      simp only [monikerref4_Kids.l0, kgo, he]
      rw [if_neg (by omega), if_pos trivial]
  | succ d ih =>
    intro pre x hx hd hp hpl
    have hlim : pre.length < 17592186044416 := by omega
    by_cases c : x < en
    · have hx2 : x < (l.length : Int) := by omega
      have hw : wrap64 (en - x) = en - x := kw64 (by omega) (by omega)
      have hl1 : (pre ++ [x]).length ≤ l.length := by rw [List.length_append, List.length_singleton]; omega
      by_cases c1 : (rd_T47 l x).f3 < 1
      · have e : kgo l en (d + 1) pre x = (pre ++ [x], false) := by simp only [kgo]; rw [if_pos c, if_pos c1]
        rw [e]
        refine ⟨⟨1, fun m hm => ?_⟩, hl1, ⟨1, fun m hm => ?_⟩⟩
        · obtain ⟨k, rfl⟩ : ∃ j, m = j + 1 := ⟨m - 1, by omega⟩
          simp only [kids.l0]
          rw [if_pos c, if_pos hx, if_pos hx2, if_pos c1]
        · obtain ⟨k, rfl⟩ : ∃ j, m = j + 1 := ⟨m - 1, by omega⟩
          simp only [monikerref4_Kids.l0, he]
          rw [if_pos c, if_pos hlim, if_pos hx, if_pos hx2, if_pos c1]
          simp
      · by_cases c2 : (rd_T47 l x).f3 > en - x
        · have e : kgo l en (d + 1) pre x = (pre ++ [x], false) := by simp only [kgo]; rw [if_pos c, if_neg c1, if_pos c2]
          rw [e]
          refine ⟨⟨1, fun m hm => ?_⟩, hl1, ⟨1, fun m hm => ?_⟩⟩
          · obtain ⟨k, rfl⟩ : ∃ j, m = j + 1 := ⟨m - 1, by omega⟩
            simp only [kids.l0]
            rw [if_pos c, if_pos hx, if_pos hx2, if_neg c1, hw, if_pos c2]
          · obtain ⟨k, rfl⟩ : ∃ j, m = j + 1 := ⟨m - 1, by omega⟩
            simp only [monikerref4_Kids.l0, he]
            rw [if_pos c, if_pos hlim, if_pos hx, if_pos hx2, if_neg c1, hw, if_pos c2]
            simp
        · have e : kgo l en (d + 1) pre x = kgo l en d (pre ++ [x]) (x + (rd_T47 l x).f3) := by simp only [kgo]; rw [if_pos c, if_neg c1, if_neg c2]
          rw [e]
          have hw2 : wrap64 (x + (rd_T47 l x).f3) = x + (rd_T47 l x).f3 := kw64 (by omega) (by omega)
          obtain ⟨i1, i2, i3⟩ := ih (pre ++ [x]) (x + (rd_T47 l x).f3) (by omega) (by omega) (by rw [List.length_append, List.length_singleton]; omega) hl1
          refine ⟨Ev.step (fun k => ?_) i1, i2, Ev.step (fun k => ?_) i3⟩
          · simp only [kids.l0]
            rw [if_pos c, if_pos hx, if_pos hx2, if_neg c1, hw, if_neg c2, hw2]
          · simp only [monikerref4_Kids.l0, he]
            rw [if_pos c, if_pos hlim, if_pos hx, if_pos hx2, if_neg c1, hw, if_neg c2, hw2]
    · have e : kgo l en (d + 1) pre x = (pre, true) := by simp only [kgo]; rw [if_neg c]
      rw [e]
      refine ⟨⟨1, fun m hm => ?_⟩, hpl, ⟨1, fun m hm => ?_⟩⟩
      · obtain ⟨k, rfl⟩ : ∃ j, m = j + 1 := ⟨m - 1, by omega⟩
        simp only [kids.l0]
        rw [if_neg c]
      · obtain ⟨k, rfl⟩ : ∃ j, m = j + 1 := ⟨m - 1, by omega⟩
        simp only [monikerref4_Kids.l0, he]
        rw [if_neg c, if_pos trivial]

theorem Kids_all (l : List S47) (hl : l.length ≤ 4398046511104) (n : Int) :
    Ev (fun k => kids.f k l n) (kspec l n) ∧ (kspec l n).1.length ≤ l.length ∧ Ev (fun k => monikerref4_Kids.f k l n) (kidsOf l n, (kspec l n).2) := by
  unfold kidsOf
  by_cases hs : sizedB l n = true
  · have h := hs
    unfold sizedB at h
    simp only [Bool.and_eq_true, decide_eq_true_eq] at h
    obtain ⟨h1, h2, h3, h4⟩ := h
    have hw : wrap64 (n + (rd_T47 l n).f3) = n + (rd_T47 l n).f3 := kw64 (by omega) (by omega)
    have hw1 : wrap64 (n + 1) = n + 1 := kw64 (by omega) (by omega)
    have hw2 : wrap64 ((l.length : Int) - n) = (l.length : Int) - n := kw64 (by omega) (by omega)
    obtain ⟨i1, i2, i3⟩ := kids_loop l hl n (rd_T47 l n).f3 (n + (rd_T47 l n).f3) (by omega) hw (by omega) l.length [] (n + 1) (by omega) (by omega) (by simp; omega) (by simp)
    have e : kspec l n = kgo l (n + (rd_T47 l n).f3) l.length [] (n + 1) := by unfold kspec; rw [if_pos hs]
    rw [e]
    refine ⟨Ev.congr (fun k => ?_) i1, i2, ?_⟩
    · unfold kids.f
      rw [sized_is l hl, hs]
      simp only [Option.bind_some, if_true]
      rw [if_pos h1, if_pos h2, hw, hw1]
    · unfold monikerref4_Kids.f
      simp only [if_neg (show ¬ n < 0 by omega), show decide (n ≥ (l.length : Int)) = false from decide_eq_false (by omega)]
      refine Ev.step (f := fun k => monikerref4_Kids.j1 k n (rd_T47 l n).f3 false l) (fun k => ?_) ?_
      · simp only [monikerref4_Kids.j0, hw2]
        rw [if_neg (by simp), if_pos h1, if_pos h2, if_neg (by omega), show decide ((rd_T47 l n).f3 > (l.length : Int) - n) = false from decide_eq_false (by omega)]
      · refine Ev.step (fun k => ?_) i3
        simp only [monikerref4_Kids.j1, hw1]
        rw [if_neg (by simp)]
  · have e : kspec l n = ([], false) := by unfold kspec; rw [if_neg hs]
    rw [e]
    have hs' : sizedB l n = false := by simpa using hs
    refine ⟨⟨0, fun k _ => ?_⟩, by simp, ?_⟩
    · simp only
      unfold kids.f
      rw [sized_is l hl, hs']
      simp
    · simp only [Bool.false_eq_true, if_false]
      have hbad : Ev (fun k => monikerref4_Kids.j0 k n true l) (([] : List Int), false) := ⟨1, fun m hm => by
        obtain ⟨k, rfl⟩ : ∃ j, m = j + 1 := ⟨m - 1, by omega⟩
        simp only [monikerref4_Kids.j0]; rfl⟩
      unfold monikerref4_Kids.f
      by_cases h1 : n < 0
      · simp only [if_pos h1]; exact hbad
      · simp only [if_neg h1]
        by_cases h2 : n ≥ (l.length : Int)
        · rw [decide_eq_true h2]; exact hbad
        · rw [decide_eq_false h2]
          have hw2 : wrap64 ((l.length : Int) - n) = (l.length : Int) - n := kw64 (by omega) (by omega)
          have hbad1 : ∀ sz, Ev (fun k => monikerref4_Kids.j1 k n sz true l) (([] : List Int), false) := fun sz => ⟨1, fun m hm => by
            obtain ⟨k, rfl⟩ : ∃ j, m = j + 1 := ⟨m - 1, by omega⟩
            simp only [monikerref4_Kids.j1]; rfl⟩
          refine Ev.step (f := fun k => monikerref4_Kids.j1 k n (rd_T47 l n).f3 true l) (fun k => ?_) (hbad1 _)
          simp only [monikerref4_Kids.j0, hw2]
          rw [if_neg (by simp), if_pos (by omega), if_pos (by omega)]
          by_cases h3 : (rd_T47 l n).f3 < 1
          · rw [if_pos h3]
          · rw [if_neg h3]
            have h4 : (rd_T47 l n).f3 > (l.length : Int) - n := by
              apply Classical.byContradiction
              intro h4
              apply hs
              unfold sizedB
              simp only [Bool.and_eq_true, decide_eq_true_eq]
              omega
            rw [decide_eq_true h4]
theorem Kids_is (l : List S47) (hl : l.length ≤ 4398046511104) (n : Int) : Ev (fun k => tree_Kids.f k l n) (kidsOf l n) := by
  obtain ⟨h1, h2, _⟩ := Kids_all l hl n
  unfold tree_Kids.f
  refine h1.bind ?_
  simp only [if_pos (show (kspec l n).1.length < 17592186044415 by omega)]
  exact Ev.now _
end Go.Proofs.Ytodldpdnhcafpaa.Q

namespace Go.Proofs.Ytodldpdnhcafpaa.Q
open Go.RowKit Go.Proofs.YtodldpdnhcafpaaW.PrintWords Go.Proofs.YtodldpdnhcafpaaW.PrintLast Go.Proofs.YtodldpdnhcafpaaW.PrintMore
open Go.Proofs.Ytodldpdnhcafpaa.F Go.Proofs.Ytodldpdnhcafpaa.K
set_option linter.unusedSimpArgs false
set_option linter.unusedVariables false

/-- Are the kids from x on in order up to en? -/
def ck (l : List S47) (en : Int) : Nat → Int → Bool
  | 0, _ => true
  | d + 1, x => if x < en then (if (rd_T47 l x).f3 < 1 then false else if (rd_T47 l x).f3 > en - x then false else ck l en d (x + (rd_T47 l x).f3)) else true
theorem kgo_ck (l : List S47) (en : Int) : ∀ (d : Nat) (pre : List Int) (x : Int), (kgo l en d pre x).2 = ck l en d x
  | 0, _, _ => rfl
  | d + 1, pre, x => by
    simp only [kgo, ck]
    split
    · split
      · rfl
      · split
        · rfl
        · exact kgo_ck l en d _ _
    · rfl
theorem ck_fuel (l : List S47) (en : Int) : ∀ (d d' : Nat) (x : Int), en - x ≤ d → en - x ≤ d' → ck l en d x = ck l en d' x
  | 0, 0, _, _, _ => rfl
  | 0, d' + 1, x, h, _ => by simp only [ck]; rw [if_neg (by omega)]
  | d + 1, 0, x, _, h => by simp only [ck]; rw [if_neg (by omega)]
  | d + 1, d' + 1, x, h, h' => by
    simp only [ck]
    split
    · split
      · rfl
      · split
        · rfl
        · exact ck_fuel l en d d' _ (by omega) (by omega)
    · rfl
def C (l : List S47) (x en : Int) : Bool := ck l en l.length x
theorem C_self (l : List S47) (x : Int) : C l x x = true := by
  unfold C
  cases l.length with
  | zero => rfl
  | succ d => simp only [ck]; rw [if_neg (by omega)]
theorem C_step (l : List S47) (x en : Int) (h0 : 0 ≤ x) (h : x < en) (he : en ≤ l.length) : C l x en = (decide (1 ≤ (rd_T47 l x).f3) && (decide ((rd_T47 l x).f3 ≤ en - x) && C l (x + (rd_T47 l x).f3) en)) := by
  unfold C
  rw [ck_fuel l en l.length (l.length + 1) x (by omega) (by omega)]
  simp only [ck]
  rw [if_pos h]
  by_cases c1 : (rd_T47 l x).f3 < 1
  · rw [if_pos c1, decide_eq_false (by omega)]; rfl
  · rw [if_neg c1, decide_eq_true (show 1 ≤ (rd_T47 l x).f3 by omega)]
    by_cases c2 : (rd_T47 l x).f3 > en - x
    · rw [if_pos c2, decide_eq_false (by omega)]; rfl
    · rw [if_neg c2, decide_eq_true (show (rd_T47 l x).f3 ≤ en - x by omega)]; rfl
theorem kspec_C (l : List S47) (n : Int) : (kspec l n).2 = (sizedB l n && C l (n + 1) (n + (rd_T47 l n).f3)) := by
  unfold kspec C
  split
  · rename_i h; rw [kgo_ck, h]; rfl
  · rename_i h; rw [show sizedB l n = false by simpa using h]; rfl
def good (l : List S47) (n : Int) : Bool := (kspec l n).2 && decide ((rd_T47 l n).f0 < 58)
def allG (l : List S47) : Nat → Int → Bool
  | 0, _ => true
  | f + 1, n => good l n && allG l f (n + 1)
def rem (l : List S47) : Int → List Int → Bool
  | _, [] => true
  | n, e :: s => C l n e && rem l e s
/-- The nodes from n on, the ends of those around from the innermost on. -/
def pops (n : Int) : List Int → List Int
  | [] => []
  | e :: s => if e = n then pops n s else e :: s
def endOf (l : List S47) : List Int → Int
  | [] => l.length
  | e :: _ => e
def run (l : List S47) : Nat → Int → List Int → Bool
  | 0, _, _ => true
  | f + 1, n, s => if (rd_T47 l n).f0 ≥ 58 then false else if (rd_T47 l n).f3 < 1 then false else if (rd_T47 l n).f3 > endOf l (pops n s) - n then false else run l f (n + 1) ((n + (rd_T47 l n).f3) :: pops n s)

/-- What the ends of the nodes around are like. -/
def Ends (l : List S47) (n : Int) (s : List Int) : Prop := ∀ e ∈ s, n ≤ e ∧ e ≤ (l.length : Int)
theorem pops_mem {n e : Int} : ∀ {s : List Int}, e ∈ pops n s → e ∈ s
  | [], h => by simp [pops] at h
  | a :: s, h => by
    simp only [pops] at h
    split at h
    · exact List.mem_cons_of_mem _ (pops_mem h)
    · exact h
theorem rem_pops (l : List S47) (n : Int) : ∀ s : List Int, rem l n s = rem l n (pops n s)
  | [] => rfl
  | e :: s => by
    simp only [pops]
    split
    · rename_i h
      subst h
      simp only [rem]
      rw [C_self, Bool.true_and]
      exact rem_pops l e s
    · rfl
theorem pops_head {n e : Int} {s t : List Int} (h : pops n s = e :: t) : e ≠ n := by
  induction s with
  | nil => simp [pops] at h
  | cons a s ih =>
    simp only [pops] at h
    split at h
    · exact ih h
    · rename_i hne
      obtain ⟨rfl, _⟩ := List.cons.inj h
      exact hne
theorem rem_full (l : List S47) : ∀ s : List Int, Ends l l.length s → rem l l.length s = true
  | [], _ => rfl
  | e :: s, h => by
    have h1 := h e List.mem_cons_self
    have : e = (l.length : Int) := by omega
    subst this
    simp only [rem]
    rw [C_self, Bool.true_and]
    exact rem_full l s (fun x hx => h x (List.mem_cons_of_mem _ hx))
theorem pops_last (n : Int) (z : Int) (hz : z ≠ n) : ∀ s : List Int, s.getLast? = some z → (pops n s).getLast? = some z
  | [], h => by simp at h
  | e :: s, h => by
    simp only [pops]
    split
    · rename_i he
      cases s with
      | nil => simp at h; omega
      | cons a s =>
        rw [List.getLast?_cons_cons] at h
        exact pops_last n z hz (a :: s) h
    · exact h
theorem pops_suffix (n : Int) : ∀ s : List Int, pops n s <:+ s
  | [] => List.suffix_refl _
  | e :: s => by
    simp only [pops]
    split
    · exact (pops_suffix n s).trans (List.suffix_cons _ _)
    · exact List.suffix_refl _
theorem run_rem (l : List S47) : ∀ (f : Nat) (n : Int) (s : List Int), (l.length : Int) - n = f → 0 ≤ n → Ends l n s → s.Pairwise (· ≤ ·) → s.getLast? = some (l.length : Int) → run l f n s = (rem l n s && allG l f n)
  | 0, n, s, hf, h0, hs, ho, hz => by
    have : n = (l.length : Int) := by omega
    subst this
    rw [rem_full l s hs]
    rfl
  | f + 1, n, s, hf, h0, hs, ho, hz => by
    have hlt : n < (l.length : Int) := by omega
    have hz2 := pops_last n (l.length : Int) (by omega) s hz
    rw [rem_pops]
    simp only [run, allG]
    cases hp : pops n s with
    | nil => rw [hp] at hz2; simp at hz2
    | cons e t =>
      have hne := pops_head hp
      have he : e ∈ s := pops_mem (by rw [hp]; exact List.mem_cons_self)
      have hes := hs e he
      have hen : n < e := by omega
      have hop : (e :: t).Pairwise (· ≤ ·) := by rw [← hp]; exact ho.sublist (pops_suffix n s).sublist
      have hE : endOf l (e :: t) = e := rfl
      simp only [rem]
      rw [hE, C_step l n e h0 hen hes.2]
      unfold good
      rw [kspec_C]
      unfold sizedB
      rw [decide_eq_true h0, decide_eq_true hlt]
      by_cases c0 : (rd_T47 l n).f0 ≥ 58
      · rw [if_pos c0, decide_eq_false (show ¬ (rd_T47 l n).f0 < 58 by omega)]; simp
      · rw [if_neg c0, decide_eq_true (show (rd_T47 l n).f0 < 58 by omega)]
        by_cases c1 : (rd_T47 l n).f3 < 1
        · rw [if_pos c1, decide_eq_false (show ¬ 1 ≤ (rd_T47 l n).f3 by omega)]; simp
        · rw [if_neg c1, decide_eq_true (show 1 ≤ (rd_T47 l n).f3 by omega)]
          by_cases c2 : (rd_T47 l n).f3 > e - n
          · rw [if_pos c2, decide_eq_false (show ¬ (rd_T47 l n).f3 ≤ e - n by omega)]; simp
          · rw [if_neg c2, decide_eq_true (show (rd_T47 l n).f3 ≤ e - n by omega), decide_eq_true (show (rd_T47 l n).f3 ≤ (l.length : Int) - n by omega)]
            rw [run_rem l f (n + 1) ((n + (rd_T47 l n).f3) :: e :: t) (by omega) (by omega) ?_ ?_ ?_]
            · simp only [rem, Bool.true_and, Bool.and_true]
              generalize C l (n + 1) (n + (rd_T47 l n).f3) = x1
              generalize C l (n + (rd_T47 l n).f3) e = x2
              generalize rem l e t = x3
              generalize allG l f (n + 1) = x4
              cases x1 <;> cases x2 <;> cases x3 <;> cases x4 <;> rfl
            · intro x hx
              rcases List.mem_cons.1 hx with rfl | hx
              · omega
              · have hx2 : x ∈ pops n s := by rw [hp]; exact hx
                have h3 := hs x (pops_mem hx2)
                rcases List.mem_cons.1 hx with rfl | hx
                · omega
                · have := (List.pairwise_cons.1 hop).1 x hx
                  omega
            · refine List.pairwise_cons.2 ⟨fun x hx => ?_, hop⟩
              rcases List.mem_cons.1 hx with rfl | hx
              · omega
              · have := (List.pairwise_cons.1 hop).1 x hx
                omega
            · rw [List.getLast?_cons_cons, ← hp]; exact hz2

def shapedB (l : List S47) : Bool := decide (0 < l.length) && (decide ((rd_T47 l 0).f3 = (l.length : Int)) && allG l l.length 0)
theorem run_all (l : List S47) (h : 0 < l.length) (hz : (rd_T47 l 0).f3 = (l.length : Int)) : run l l.length 0 [] = allG l l.length 0 := by
  obtain ⟨f, hf⟩ : ∃ f, l.length = f + 1 := ⟨l.length - 1, by omega⟩
  have h1 : run l f 1 [(l.length : Int)] = (rem l 1 [(l.length : Int)] && allG l f 1) := by
    refine run_rem l f 1 _ (by omega) (by omega) ?_ (by simp) (by simp)
    intro e he
    simp at he
    omega
  rw [hf]
  simp only [run, allG]
  have hP : pops 0 [] = [] := rfl
  have hE : endOf l [] = (l.length : Int) := rfl
  rw [hP, hE, hz, Int.zero_add, Int.zero_add, h1]
  unfold good
  rw [kspec_C]
  unfold sizedB
  rw [hz, Int.zero_add, Int.zero_add, decide_eq_true (show (0 : Int) ≤ 0 by omega), decide_eq_true (show (0 : Int) < (l.length : Int) by omega), decide_eq_true (show (1 : Int) ≤ (l.length : Int) by omega), decide_eq_true (show (l.length : Int) ≤ (l.length : Int) - 0 by omega)]
  rw [if_neg (show ¬ (l.length : Int) < 1 by omega), if_neg (show ¬ (l.length : Int) > (l.length : Int) - 0 by omega)]
  simp only [rem]
  by_cases c : (rd_T47 l 0).f0 ≥ 58
  · rw [if_pos c, decide_eq_false (show ¬ (rd_T47 l 0).f0 < 58 by omega)]; simp
  · rw [if_neg c, decide_eq_true (show (rd_T47 l 0).f0 < 58 by omega)]; simp

theorem last_rev (e : Int) (s : List Int) : rd ((e :: s).reverse) (wrap64 (((e :: s).reverse.length : Int) - 1)) = e ∨ ¬ (e :: s).length ≤ 9223372036854775807 := by
  by_cases h : (e :: s).length ≤ 9223372036854775807
  · left
    rw [List.length_reverse, kw64 (by omega) (by simp only [List.length_cons] at h ⊢; omega)]
    unfold rd
    rw [show (((e :: s).length : Int) - 1).toNat = s.length by simp only [List.length_cons]; omega, List.reverse_cons]
    simp [List.getD_eq_getElem?_getD]
  · exact .inr h
/-- tree.shaped's two inner parts. -/
theorem shaped_loop (l : List S47) (hl : l.length ≤ 4398046511104) : ∀ (f : Nat) (n : Int) (s : List Int), (l.length : Int) - n = f → 0 ≤ n → (∀ e ∈ s, 0 ≤ e ∧ e ≤ (l.length : Int)) → (s.length : Int) ≤ n →
    Ev (fun k => tree_shaped.l0 k s.reverse l (l.length : Int) n l) (run l f n s)
  | 0, n, s, hf, h0, hs, hb => by
    refine ⟨1, fun m hm => ?_⟩
    obtain ⟨k, rfl⟩ : ∃ j, m = j + 1 := ⟨m - 1, by omega⟩
    simp only [tree_shaped.l0, run]
    rw [if_neg (by omega)]
  | f + 1, n, s, hf, h0, hs, hb => by
    have hlt : n < (l.length : Int) := by omega
    have hw1 : wrap64 (n + 1) = n + 1 := kw64 (by omega) (by omega)
    refine Ev.step (f := fun k => tree_shaped.l1 k s.reverse n l (l.length : Int) n l (rd_T47 l n).f0 (rd_T47 l n).f1 (rd_T47 l n).f2 (rd_T47 l n).f3) (fun k => by
      simp only [tree_shaped.l0]
      rw [if_pos hlt, if_pos h0, if_pos hlt]) ?_
    have tail : ∀ s : List Int, (∀ e ∈ s, 0 ≤ e ∧ e ≤ (l.length : Int)) → (s.length : Int) ≤ n →
        Ev (fun k => tree_shaped.j3 k s.reverse n l (l.length : Int) n l (rd_T47 l n).f0 (rd_T47 l n).f1 (rd_T47 l n).f2 (rd_T47 l n).f3)
          (if (rd_T47 l n).f0 ≥ 58 then false else if (rd_T47 l n).f3 < 1 then false else if (rd_T47 l n).f3 > endOf l s - n then false else run l f (n + 1) ((n + (rd_T47 l n).f3) :: s)) := by
      intro s hs hb
      have hend : 0 ≤ endOf l s ∧ endOf l s ≤ (l.length : Int) := by
        cases s with
        | nil => simp only [endOf]; omega
        | cons e s => exact hs e List.mem_cons_self
      have hwe : wrap64 (endOf l s - n) = endOf l s - n := kw64 (by omega) (by omega)
      have hlim : s.reverse.length < 17592186044416 := by rw [List.length_reverse]; omega
      have key : ∀ k, tree_shaped.j3 (k + 1) s.reverse n l (l.length : Int) n l (rd_T47 l n).f0 (rd_T47 l n).f1 (rd_T47 l n).f2 (rd_T47 l n).f3 =
          if (rd_T47 l n).f0 ≥ 58 then some false else if (rd_T47 l n).f3 < 1 then some false else if (rd_T47 l n).f3 > endOf l s - n then some false else tree_shaped.l0 k (s.reverse ++ [wrap64 (n + (rd_T47 l n).f3)]) l (l.length : Int) (n + 1) l := by
        intro k
        simp only [tree_shaped.j3, hw1]
        cases s with
        | nil =>
          have hE : endOf l [] = (l.length : Int) := rfl
          rw [hE] at hwe ⊢
          rw [if_neg (by simp), hwe, if_pos hlim]
        | cons e s =>
          have hE : endOf l (e :: s) = e := rfl
          rw [hE] at hwe ⊢
          have hr := (last_rev e s).resolve_right (fun h => h (by omega))
          have hlen : ((e :: s).reverse.length : Int) = (s.length : Int) + 1 := by rw [List.length_reverse, List.length_cons]; omega
          simp only [List.length_cons] at hb
          rw [hr, hwe, if_pos hlim, hlen, kw64 (by omega) (by omega), if_pos (by omega), if_pos (by omega), if_pos (by omega)]
      by_cases c0 : (rd_T47 l n).f0 ≥ 58
      · rw [if_pos c0]; exact ⟨1, fun m hm => by obtain ⟨k, rfl⟩ : ∃ j, m = j + 1 := ⟨m - 1, by omega⟩; simp only; rw [key, if_pos c0]⟩
      · rw [if_neg c0]
        by_cases c1 : (rd_T47 l n).f3 < 1
        · rw [if_pos c1]; exact ⟨1, fun m hm => by obtain ⟨k, rfl⟩ : ∃ j, m = j + 1 := ⟨m - 1, by omega⟩; simp only; rw [key, if_neg c0, if_pos c1]⟩
        · rw [if_neg c1]
          by_cases c2 : (rd_T47 l n).f3 > endOf l s - n
          · rw [if_pos c2]; exact ⟨1, fun m hm => by obtain ⟨k, rfl⟩ : ∃ j, m = j + 1 := ⟨m - 1, by omega⟩; simp only; rw [key, if_neg c0, if_neg c1, if_pos c2]⟩
          · rw [if_neg c2]
            have ih := shaped_loop l hl f (n + 1) ((n + (rd_T47 l n).f3) :: s) (by omega) (by omega) (fun e he => by
              rcases List.mem_cons.1 he with rfl | he
              · omega
              · exact hs e he) (by rw [List.length_cons]; omega)
            refine Ev.step (fun k => ?_) ih
            rw [key, if_neg c0, if_neg c1, if_neg c2, List.reverse_cons, kw64 (by omega) (by omega)]
    have pop : ∀ s : List Int, (∀ e ∈ s, 0 ≤ e ∧ e ≤ (l.length : Int)) → (s.length : Int) ≤ n →
        Ev (fun k => tree_shaped.l1 k s.reverse n l (l.length : Int) n l (rd_T47 l n).f0 (rd_T47 l n).f1 (rd_T47 l n).f2 (rd_T47 l n).f3)
          (if (rd_T47 l n).f0 ≥ 58 then false else if (rd_T47 l n).f3 < 1 then false else if (rd_T47 l n).f3 > endOf l (pops n s) - n then false else run l f (n + 1) ((n + (rd_T47 l n).f3) :: pops n s)) := by
      intro s
      induction s with
      | nil =>
        intro hs hb
        have := tail [] hs hb
        have hP : pops n [] = [] := rfl
        rw [hP]
        refine Ev.step (fun k => ?_) this
        simp only [tree_shaped.l1]
        rw [if_neg (by simp)]
      | cons e s ih =>
        intro hs hb
        have hr := (last_rev e s).resolve_right (fun h => h (by omega))
        have hlen : ((e :: s).reverse.length : Int) = (s.length : Int) + 1 := by rw [List.length_reverse, List.length_cons]; omega
        simp only [List.length_cons] at hb
        have hw : wrap64 ((s.length : Int) + 1 - 1) = (s.length : Int) := by rw [kw64] <;> omega
        by_cases c : e = n
        · have hP : pops n (e :: s) = pops n s := by simp only [pops]; rw [if_pos c]
          rw [hP]
          have i1 := ih (fun x hx => hs x (List.mem_cons_of_mem _ hx)) (by omega)
          refine Ev.step (fun k => ?_) i1
          simp only [tree_shaped.l1]
          rw [hr, if_pos (by omega), hlen, hw, if_pos (by omega), if_pos (by omega), if_pos c, if_pos (by omega), Int.toNat_natCast, List.reverse_cons, List.take_append_of_le_length (by simp), List.take_of_length_le (by simp)]
        · have hP : pops n (e :: s) = e :: s := by simp only [pops]; rw [if_neg c]
          rw [hP]
          have := tail (e :: s) hs (by rw [List.length_cons]; omega)
          refine Ev.step (fun k => ?_) this
          simp only [tree_shaped.l1]
          rw [hr, if_pos (by omega), hlen, hw, if_pos (by omega), if_pos (by omega), if_neg c]
    simp only [run]
    exact pop s hs hb
theorem shaped_is (l : List S47) (hl : l.length ≤ 4398046511104) : Ev (fun k => tree_shaped.f k l) (shapedB l) := by
  unfold tree_shaped.f shapedB
  have hbad : Ev (fun k => tree_shaped.j0 k true l) false := ⟨1, fun m hm => by
    obtain ⟨k, rfl⟩ : ∃ j, m = j + 1 := ⟨m - 1, by omega⟩
    simp only [tree_shaped.j0]; rfl⟩
  by_cases h : (l.length : Int) = 0
  · simp only [if_pos h, decide_eq_false (show ¬ 0 < l.length by omega), Bool.false_and]; exact hbad
  · simp only [if_neg h, if_pos (show 0 < (l.length : Int) by omega), decide_eq_true (show 0 < l.length by omega), Bool.true_and]
    by_cases hz : (rd_T47 l 0).f3 = (l.length : Int)
    · rw [decide_eq_true hz, Bool.true_and, ← run_all l (by omega) hz]
      have hne : ((rd_T47 l 0).f3 != (l.length : Int)) = false := bne_eq_false_iff_eq.mpr hz
      simp only [hne]
      have := shaped_loop l hl l.length 0 [] (by omega) (by omega) (by simp) (by simp)
      refine Ev.step (fun k => ?_) this
      simp only [tree_shaped.j0]
      rw [if_neg (by simp)]
      rfl
    · rw [decide_eq_false hz, Bool.false_and]
      have hne : ((rd_T47 l 0).f3 != (l.length : Int)) = true := bne_iff_ne.mpr hz
      simp only [hne]
      exact hbad
theorem rshaped_loop (l : List S47) (hl : l.length ≤ 4398046511104) (hk : ∀ x ∈ l, 0 ≤ x.f0 ∧ x.f0 ≤ 255) : ∀ (f : Nat) (n : Int), (l.length : Int) - n = f → 0 ≤ n → Ev (fun k => monikerref4_Shaped.l0 k n l) (allG l f n)
  | 0, n, hf, h0 => by
    refine ⟨1, fun m hm => ?_⟩
    obtain ⟨k, rfl⟩ : ∃ j, m = j + 1 := ⟨m - 1, by omega⟩
    simp only [monikerref4_Shaped.l0, allG]
    rw [if_neg (by omega)]
  | f + 1, n, hf, h0 => by
    have hlt : n < (l.length : Int) := by omega
    have ih := rshaped_loop l hl hk f (n + 1) (by omega) (by omega)
    have hw1 : wrap64 (n + 1) = n + 1 := kw64 (by omega) (by omega)
    obtain ⟨_, _, k3⟩ := Kids_all l hl n
    have hkn : 0 ≤ (rd_T47 l n).f0 ∧ (rd_T47 l n).f0 ≤ 255 := by
      have : rd_T47 l n = l[n.toNat]'(by omega) := by simp [rd_T47, List.getD_eq_getElem?_getD, show n.toNat < l.length by omega]
      rw [this]
      exact hk _ (List.getElem_mem _)
    have hw0 : wrap64 (rd_T47 l n).f0 = (rd_T47 l n).f0 := kw64 (by omega) (by omega)
    simp only [allG]
    unfold good
    refine Ev.step (f := fun k => (monikerref4_Kids.f k l n).bind fun bt292 => (if bt292.2 = true then (if 0 ≤ n then (if (rd_T47 l n).f0 ≥ 58 then (some false) else (monikerref4_Shaped.l0 k (n + 1) l)) else (none)) else (some false))) (fun k => by
      simp only [monikerref4_Shaped.l0, hw0, hw1]
      rw [if_pos hlt]) ?_
    refine k3.bind ?_
    by_cases c : (kspec l n).2 = true
    · simp only [if_pos c, if_pos h0]
      rw [c, Bool.true_and]
      by_cases c0 : (rd_T47 l n).f0 ≥ 58
      · simp only [if_pos c0]
        rw [decide_eq_false (show ¬ (rd_T47 l n).f0 < 58 by omega), Bool.false_and]
        exact Ev.now _
      · simp only [if_neg c0]
        rw [decide_eq_true (show (rd_T47 l n).f0 < 58 by omega), Bool.true_and]
        exact ih
    · simp only [if_neg c]
      rw [show (kspec l n).2 = false by simpa using c, Bool.false_and, Bool.false_and]
      exact Ev.now _
theorem RShaped_is (l : List S47) (hl : l.length ≤ 4398046511104) (hk : ∀ x ∈ l, 0 ≤ x.f0 ∧ x.f0 ≤ 255) : Ev (fun k => monikerref4_Shaped.f k l) (shapedB l) := by
  unfold monikerref4_Shaped.f shapedB
  have hbad : Ev (fun k => monikerref4_Shaped.j0 k true l) false := ⟨1, fun m hm => by
    obtain ⟨k, rfl⟩ : ∃ j, m = j + 1 := ⟨m - 1, by omega⟩
    simp only [monikerref4_Shaped.j0]; rfl⟩
  by_cases h : (l.length : Int) = 0
  · simp only [if_pos h, decide_eq_false (show ¬ 0 < l.length by omega), Bool.false_and]; exact hbad
  · simp only [if_neg h, if_pos (show 0 < (l.length : Int) by omega), decide_eq_true (show 0 < l.length by omega), Bool.true_and]
    by_cases hz : (rd_T47 l 0).f3 = (l.length : Int)
    · rw [decide_eq_true hz, Bool.true_and]
      have hne : ((rd_T47 l 0).f3 != (l.length : Int)) = false := bne_eq_false_iff_eq.mpr hz
      simp only [hne]
      refine Ev.step (fun k => ?_) (rshaped_loop l hl hk l.length 0 (by omega) (by omega))
      simp only [monikerref4_Shaped.j0]
      rw [if_neg (by simp)]
    · rw [decide_eq_false hz, Bool.false_and]
      have hne : ((rd_T47 l 0).f3 != (l.length : Int)) = true := bne_iff_ne.mpr hz
      simp only [hne]
      exact hbad
end Go.Proofs.Ytodldpdnhcafpaa.Q

namespace Go.Proofs.Ytodldpdnhcafpaa.Q
open Go.RowKit Go.Proofs.YtodldpdnhcafpaaW.PrintWords Go.Proofs.YtodldpdnhcafpaaW.PrintLast Go.Proofs.YtodldpdnhcafpaaW.PrintMore
open Go.Proofs.Ytodldpdnhcafpaa.F Go.Proofs.Ytodldpdnhcafpaa.K
set_option linter.unusedSimpArgs false
set_option linter.unusedVariables false

def okS (l : List S47) (q n : Int) : Bool := decide (0 ≤ (rd_T47 l n).f1) && (decide ((rd_T47 l n).f1 ≤ (rd_T47 l n).f2) && decide ((rd_T47 l n).f2 ≤ q))
def rf (l : List S47) (nd : S47) : List Int → Int → Bool
  | [], _ => true
  | x :: ks, en => if (rd_T47 l x).f1 = (rd_T47 l x).f2 then (if (rd_T47 l x).f1 < nd.f1 then false else rf l nd ks en) else (if (rd_T47 l x).f1 < en then false else if (rd_T47 l x).f2 > nd.f2 then false else rf l nd ks (rd_T47 l x).f2)
def allV (l : List S47) (q : Int) : Nat → Int → Bool
  | 0, _ => true
  | f + 1, n => okS l q n && ((vfold l (rd_T47 l n) (kspec l n).1).1 && allV l q f (n + 1))
def allR (l : List S47) (q : Int) : Nat → Int → Bool
  | 0, _ => true
  | f + 1, n => okS l q n && (rf l (rd_T47 l n) (kidsOf l n) (rd_T47 l n).f1 && allR l q f (n + 1))
theorem kgo_mem (l : List S47) (en : Int) : ∀ (d : Nat) (pre : List Int) (x lo : Int), lo ≤ x → (∀ y ∈ pre, lo ≤ y ∧ y < en) → ∀ y ∈ (kgo l en d pre x).1, lo ≤ y ∧ y < en
  | 0, pre, x, lo, _, h => h
  | d + 1, pre, x, lo, hx, h => by
    simp only [kgo]
    split
    · rename_i hlt
      have h2 : ∀ y ∈ pre ++ [x], lo ≤ y ∧ y < en := by
        intro y hy
        rcases List.mem_append.1 hy with hy | hy
        · exact h y hy
        · have : y = x := by simpa using hy
          omega
      split
      · exact h2
      · split
        · exact h2
        · exact kgo_mem l en d _ _ lo (by omega) h2
    · exact h
theorem kspec_mem (l : List S47) (n : Int) : ∀ y ∈ (kspec l n).1, 0 ≤ y ∧ y < (l.length : Int) := by
  unfold kspec
  split
  · rename_i hs
    unfold sizedB at hs
    simp only [Bool.and_eq_true, decide_eq_true_eq] at hs
    intro y hy
    have := kgo_mem l _ _ [] (n + 1) (n + 1) (Int.le_refl _) (fun y hy => by cases hy) y hy
    omega
  · intro y hy; cases hy
theorem fold_rf (l : List S47) (nd : S47) (q : Int) (hok : ∀ m, 0 ≤ m → m < (l.length : Int) → okS l q m = true) : ∀ (ks : List Int), (∀ y ∈ ks, 0 ≤ y ∧ y < (l.length : Int)) → ∀ (g : Bool) (a : Int),
    (ks.foldl (fun s x => vstep nd (rd_T47 l x) s.1 s.2) (g, a)).1 = (g && rf l nd ks a)
  | [], _, g, a => by simp [rf]
  | x :: ks, hm, g, a => by
    have ih := fold_rf l nd q hok ks (fun y hy => hm y (List.mem_cons_of_mem _ hy))
    have h1 := hm x List.mem_cons_self
    have h2 := hok x h1.1 h1.2
    unfold okS at h2
    simp only [Bool.and_eq_true, decide_eq_true_eq] at h2
    simp only [List.foldl_cons, rf]
    generalize rd_T47 l x = y at *
    by_cases c : y.f1 = y.f2
    · have hv : vstep nd y g a = (g && decide (nd.f1 ≤ y.f1), a) := by unfold vstep; rw [if_pos c]
      rw [hv, ih, if_pos c]
      by_cases c2 : y.f1 < nd.f1
      · rw [if_pos c2, decide_eq_false (show ¬ nd.f1 ≤ y.f1 by omega)]; simp
      · rw [if_neg c2, decide_eq_true (show nd.f1 ≤ y.f1 by omega), Bool.and_true]
    · have hv : vstep nd y g a = (g && decide (a ≤ y.f1) && decide (y.f2 ≤ nd.f2), mx a y.f2) := by unfold vstep; rw [if_neg c]
      rw [hv, ih, if_neg c]
      by_cases c2 : y.f1 < a
      · rw [if_pos c2, decide_eq_false (show ¬ a ≤ y.f1 by omega)]; simp
      · rw [if_neg c2, decide_eq_true (show a ≤ y.f1 by omega)]
        have hmx : mx a y.f2 = y.f2 := by unfold mx; omega
        rw [hmx]
        by_cases c3 : y.f2 > nd.f2
        · rw [if_pos c3, decide_eq_false (show ¬ y.f2 ≤ nd.f2 by omega)]; simp
        · rw [if_neg c3, decide_eq_true (show y.f2 ≤ nd.f2 by omega)]; simp
theorem all_same (l : List S47) (q : Int) (hg : ∀ m, 0 ≤ m → m < (l.length : Int) → (kspec l m).2 = true) (hok : ∀ m, 0 ≤ m → m < (l.length : Int) → okS l q m = true) : ∀ (f : Nat) (n : Int), (l.length : Int) - n = f → 0 ≤ n → allV l q f n = allR l q f n
  | 0, _, _, _ => rfl
  | f + 1, n, hf, h0 => by
    simp only [allV, allR]
    rw [all_same l q hg hok f (n + 1) (by omega) (by omega)]
    have h1 := fold_rf l (rd_T47 l n) q hok (kspec l n).1 (kspec_mem l n) true (rd_T47 l n).f1
    have h2 : kidsOf l n = (kspec l n).1 := by unfold kidsOf; rw [if_pos (hg n h0 (by omega))]
    unfold vfold
    rw [h1, h2, Bool.true_and]
theorem all_bad (l : List S47) (q m : Int) (h : okS l q m = false) : ∀ (f : Nat) (n : Int), n ≤ m → m < n + f → allV l q f n = false ∧ allR l q f n = false
  | 0, n, h1, h2 => by omega
  | f + 1, n, h1, h2 => by
    simp only [allV, allR]
    by_cases c : n = m
    · rw [c, h]; simp
    · obtain ⟨i1, i2⟩ := all_bad l q m h f (n + 1) (by omega) (by omega)
      rw [i1, i2]; simp
theorem all_eq (l : List S47) (q : Int) (hg : ∀ m, 0 ≤ m → m < (l.length : Int) → (kspec l m).2 = true) : allV l q l.length 0 = allR l q l.length 0 := by
  by_cases h : ∀ m, 0 ≤ m → m < (l.length : Int) → okS l q m = true
  · exact all_same l q hg h l.length 0 (by omega) (by omega)
  · obtain ⟨m, hm⟩ : ∃ m, ¬ (0 ≤ m → m < (l.length : Int) → okS l q m = true) := Classical.byContradiction fun hh => h (fun m => Classical.byContradiction fun h3 => hh ⟨m, h3⟩)
    have h0 : 0 ≤ m := Classical.byContradiction fun h3 => hm (fun h4 => absurd h4 h3)
    have h1 : m < (l.length : Int) := Classical.byContradiction fun h3 => hm (fun _ h4 => absurd h4 h3)
    have h2 : okS l q m = false := by
      cases hh : okS l q m with
      | false => rfl
      | true => exact absurd (fun _ _ => hh) hm
    obtain ⟨i1, i2⟩ := all_bad l q m h2 l.length 0 h0 (by omega)
    rw [i1, i2]
theorem allG_at (l : List S47) : ∀ (f : Nat) (n : Int), allG l f n = true → ∀ m, n ≤ m → m < n + f → (kspec l m).2 = true
  | 0, n, _, m, h1, h2 => by omega
  | f + 1, n, h, m, h1, h2 => by
    simp only [allG, Bool.and_eq_true] at h
    by_cases c : n = m
    · subst c
      have := h.1
      unfold good at this
      simp only [Bool.and_eq_true] at this
      exact this.1
    · exact allG_at l f (n + 1) h.2 m (by omega) (by omega)
def validB (l : List S47) (q : Int) : Bool := shapedB l && allR l q l.length 0

theorem valid_loop (l : List S47) (hl : l.length ≤ 4398046511104) (q : Int) : ∀ (f : Nat) (n : Int), (l.length : Int) - n = f → 0 ≤ n → Ev (fun k => tree_Valid.l0 k l q n) (allV l q f n)
  | 0, n, hf, h0 => by
    refine ⟨1, fun m hm => ?_⟩
    obtain ⟨k, rfl⟩ : ∃ j, m = j + 1 := ⟨m - 1, by omega⟩
    simp only [tree_Valid.l0, allV]
    rw [if_neg (by omega)]
  | f + 1, n, hf, h0 => by
    have hlt : n < (l.length : Int) := by omega
    have ih := valid_loop l hl q f (n + 1) (by omega) (by omega)
    have hw1 : wrap64 (n + 1) = n + 1 := kw64 (by omega) (by omega)
    obtain ⟨k1, _, _⟩ := Kids_all l hl n
    simp only [allV]
    unfold okS
    have e : ∀ k, tree_Valid.l0 (k + 1) l q n = if (rd_T47 l n).f1 < 0 then some false else if (rd_T47 l n).f2 < (rd_T47 l n).f1 then some false else if (rd_T47 l n).f2 > q then some false else (kids.f k l n).bind fun r => (if (vfold l (rd_T47 l n) r.1).1 = true then tree_Valid.l0 k l q (n + 1) else some false) := by
      intro k
      simp only [tree_Valid.l0, hw1]
      rw [if_pos hlt, if_pos h0]
    by_cases c1 : (rd_T47 l n).f1 < 0
    · rw [decide_eq_false (show ¬ 0 ≤ (rd_T47 l n).f1 by omega)]
      exact ⟨1, fun m hm => by obtain ⟨k, rfl⟩ : ∃ j, m = j + 1 := ⟨m - 1, by omega⟩; simp only; rw [e, if_pos c1]; simp⟩
    · rw [decide_eq_true (show 0 ≤ (rd_T47 l n).f1 by omega)]
      by_cases c2 : (rd_T47 l n).f2 < (rd_T47 l n).f1
      · rw [decide_eq_false (show ¬ (rd_T47 l n).f1 ≤ (rd_T47 l n).f2 by omega)]
        exact ⟨1, fun m hm => by obtain ⟨k, rfl⟩ : ∃ j, m = j + 1 := ⟨m - 1, by omega⟩; simp only; rw [e, if_neg c1, if_pos c2]; simp⟩
      · rw [decide_eq_true (show (rd_T47 l n).f1 ≤ (rd_T47 l n).f2 by omega)]
        by_cases c3 : (rd_T47 l n).f2 > q
        · rw [decide_eq_false (show ¬ (rd_T47 l n).f2 ≤ q by omega)]
          exact ⟨1, fun m hm => by obtain ⟨k, rfl⟩ : ∃ j, m = j + 1 := ⟨m - 1, by omega⟩; simp only; rw [e, if_neg c1, if_neg c2, if_pos c3]; simp⟩
        · rw [decide_eq_true (show (rd_T47 l n).f2 ≤ q by omega)]
          refine Ev.step (f := fun k => (kids.f k l n).bind fun r => (if (vfold l (rd_T47 l n) r.1).1 = true then tree_Valid.l0 k l q (n + 1) else some false)) (fun k => by rw [e, if_neg c1, if_neg c2, if_neg c3]) ?_
          refine k1.bind ?_
          by_cases c4 : (vfold l (rd_T47 l n) (kspec l n).1).1 = true
          · simp only [if_pos c4]
            rw [c4]
            simpa using ih
          · simp only [if_neg c4]
            rw [show (vfold l (rd_T47 l n) (kspec l n).1).1 = false by simpa using c4]
            simpa using Ev.now false
theorem Valid_is (l : List S47) (hl : l.length ≤ 4398046511104) (q : Int) : Ev (fun k => tree_Valid.f k l q) (validB l q) := by
  unfold tree_Valid.f validB
  refine (shaped_is l hl).bind ?_
  by_cases h : shapedB l = true
  · simp only [if_pos h]
    have h2 := h
    unfold shapedB at h2
    simp only [Bool.and_eq_true, decide_eq_true_eq] at h2
    rw [h, Bool.true_and, ← all_eq l q (fun m h3 h4 => allG_at l l.length 0 h2.2.2 m h3 (by omega))]
    exact valid_loop l hl q l.length 0 (by omega) (by omega)
  · simp only [if_neg h]
    rw [show shapedB l = false by simpa using h]
    exact Ev.now _

theorem rvalid_in (l : List S47) (q n : Int) (nd : S47) (ks : List Int) (hk : ks.length ≤ 4398046511104) (hm : ∀ y ∈ ks, 0 ≤ y ∧ y < (l.length : Int)) (r : Bool) (hr : Ev (fun k => monikerref4_Valid.l0 k q (wrap64 (n + 1)) l) r) (d : Nat) : ∀ (i : Nat) (en : Int), i ≤ ks.length → ks.length - i = d →
    Ev (fun k => monikerref4_Valid.l1 k q n ks en (i : Int) l nd.f0 nd.f1 nd.f2 nd.f3) (rf l nd (ks.drop i) en && r) := by
  induction d with
  | zero =>
    intro i en h1 h2
    rw [List.drop_eq_nil_of_le (by omega)]
    simp only [rf, Bool.true_and]
    refine Ev.step (fun k => ?_) hr
    simp only [monikerref4_Valid.l1]
    rw [if_neg (by omega)]
  | succ d ih =>
    intro i en h1 h2
    have hi : i < ks.length := by omega
    have hw : wrap64 ((i : Int) + 1) = ((i + 1 : Nat) : Int) := kw64 (by omega) (by omega)
    have hrd : rd ks (i : Int) = ks[i] := by simp [rd, List.getD_eq_getElem?_getD, hi]
    have hmi := hm _ (List.getElem_mem hi)
    have e : ∀ k, monikerref4_Valid.l1 (k + 1) q n ks en (i : Int) l nd.f0 nd.f1 nd.f2 nd.f3 = if (rd_T47 l ks[i]).f1 = (rd_T47 l ks[i]).f2 then (if (rd_T47 l ks[i]).f1 < nd.f1 then some false else monikerref4_Valid.l1 k q n ks en ((i + 1 : Nat) : Int) l nd.f0 nd.f1 nd.f2 nd.f3) else (if (rd_T47 l ks[i]).f1 < en then some false else if (rd_T47 l ks[i]).f2 > nd.f2 then some false else monikerref4_Valid.l1 k q n ks (rd_T47 l ks[i]).f2 ((i + 1 : Nat) : Int) l nd.f0 nd.f1 nd.f2 nd.f3) := by
      intro k
      simp only [monikerref4_Valid.l1, hrd, hw]
      rw [if_pos (by omega), if_pos (by omega), if_pos hmi.1, if_pos hmi.2]
    rw [List.drop_eq_getElem_cons hi]
    simp only [rf]
    by_cases c : (rd_T47 l ks[i]).f1 = (rd_T47 l ks[i]).f2
    · rw [if_pos c]
      by_cases c2 : (rd_T47 l ks[i]).f1 < nd.f1
      · rw [if_pos c2, Bool.false_and]
        exact ⟨1, fun m hm => by obtain ⟨k, rfl⟩ : ∃ j, m = j + 1 := ⟨m - 1, by omega⟩; simp only; rw [e, if_pos c, if_pos c2]⟩
      · rw [if_neg c2]
        refine Ev.step (fun k => ?_) (ih (i + 1) en (by omega) (by omega))
        rw [e, if_pos c, if_neg c2]
    · rw [if_neg c]
      by_cases c2 : (rd_T47 l ks[i]).f1 < en
      · rw [if_pos c2, Bool.false_and]
        exact ⟨1, fun m hm => by obtain ⟨k, rfl⟩ : ∃ j, m = j + 1 := ⟨m - 1, by omega⟩; simp only; rw [e, if_neg c, if_pos c2]⟩
      · rw [if_neg c2]
        by_cases c3 : (rd_T47 l ks[i]).f2 > nd.f2
        · rw [if_pos c3, Bool.false_and]
          exact ⟨1, fun m hm => by obtain ⟨k, rfl⟩ : ∃ j, m = j + 1 := ⟨m - 1, by omega⟩; simp only; rw [e, if_neg c, if_neg c2, if_pos c3]⟩
        · rw [if_neg c3]
          refine Ev.step (fun k => ?_) (ih (i + 1) _ (by omega) (by omega))
          rw [e, if_neg c, if_neg c2, if_neg c3]
theorem kidsOf_mem (l : List S47) (n : Int) : ∀ y ∈ kidsOf l n, 0 ≤ y ∧ y < (l.length : Int) := by
  unfold kidsOf
  split
  · exact kspec_mem l n
  · intro y hy; cases hy
theorem rvalid_loop (l : List S47) (hl : l.length ≤ 4398046511104) (q : Int) : ∀ (f : Nat) (n : Int), (l.length : Int) - n = f → 0 ≤ n → Ev (fun k => monikerref4_Valid.l0 k q n l) (allR l q f n)
  | 0, n, hf, h0 => by
    refine ⟨1, fun m hm => ?_⟩
    obtain ⟨k, rfl⟩ : ∃ j, m = j + 1 := ⟨m - 1, by omega⟩
    simp only [monikerref4_Valid.l0, allR]
    rw [if_neg (by omega)]
  | f + 1, n, hf, h0 => by
    have hlt : n < (l.length : Int) := by omega
    have ih := rvalid_loop l hl q f (n + 1) (by omega) (by omega)
    have hw1 : wrap64 (n + 1) = n + 1 := kw64 (by omega) (by omega)
    obtain ⟨_, k2, k3⟩ := Kids_all l hl n
    have hkl : (kidsOf l n).length ≤ 4398046511104 := by unfold kidsOf; split; omega; simp
    simp only [allR]
    unfold okS
    have hbad : Ev (fun k => monikerref4_Valid.j1 k q n true l (rd_T47 l n).f0 (rd_T47 l n).f1 (rd_T47 l n).f2 (rd_T47 l n).f3) false := ⟨1, fun m hm => by
      obtain ⟨k, rfl⟩ : ∃ j, m = j + 1 := ⟨m - 1, by omega⟩
      simp only [monikerref4_Valid.j1]; rfl⟩
    by_cases c1 : (rd_T47 l n).f1 < 0
    · rw [decide_eq_false (show ¬ 0 ≤ (rd_T47 l n).f1 by omega), Bool.false_and, Bool.false_and]
      refine Ev.step (fun k => ?_) hbad
      simp only [monikerref4_Valid.l0]
      rw [if_pos hlt, if_pos h0, if_pos c1]
    · rw [decide_eq_true (show 0 ≤ (rd_T47 l n).f1 by omega), Bool.true_and]
      by_cases c2 : (rd_T47 l n).f2 < (rd_T47 l n).f1
      · rw [decide_eq_false (show ¬ (rd_T47 l n).f1 ≤ (rd_T47 l n).f2 by omega), Bool.false_and, Bool.false_and]
        refine Ev.step (fun k => ?_) hbad
        simp only [monikerref4_Valid.l0]
        rw [if_pos hlt, if_pos h0, if_neg c1, if_pos c2]
      · rw [decide_eq_true (show (rd_T47 l n).f1 ≤ (rd_T47 l n).f2 by omega), Bool.true_and]
        by_cases c3 : (rd_T47 l n).f2 > q
        · rw [decide_eq_false (show ¬ (rd_T47 l n).f2 ≤ q by omega), Bool.false_and]
          refine Ev.step (fun k => ?_) hbad
          simp only [monikerref4_Valid.l0]
          rw [if_pos hlt, if_pos h0, if_neg c1, if_neg c2, decide_eq_true c3]
        · rw [decide_eq_true (show (rd_T47 l n).f2 ≤ q by omega), Bool.true_and]
          refine Ev.step (f := fun k => monikerref4_Valid.j1 k q n false l (rd_T47 l n).f0 (rd_T47 l n).f1 (rd_T47 l n).f2 (rd_T47 l n).f3) (fun k => by
            simp only [monikerref4_Valid.l0]
            rw [if_pos hlt, if_pos h0, if_neg c1, if_neg c2, decide_eq_false c3]) ?_
          refine Ev.step (f := fun k => (monikerref4_Kids.f k l n).bind fun bt301 => (monikerref4_Valid.l1 k q n bt301.1 (rd_T47 l n).f1 0 l (rd_T47 l n).f0 (rd_T47 l n).f1 (rd_T47 l n).f2 (rd_T47 l n).f3)) (fun k => by
            simp only [monikerref4_Valid.j1]
            rw [if_neg (by simp)]) ?_
          refine k3.bind ?_
          have := rvalid_in l q n (rd_T47 l n) (kidsOf l n) hkl (kidsOf_mem l n) _ (by rw [hw1]; exact ih) _ 0 (rd_T47 l n).f1 (by omega) rfl
          simpa using this
theorem RValid_is (l : List S47) (hl : l.length ≤ 4398046511104) (hk : ∀ x ∈ l, 0 ≤ x.f0 ∧ x.f0 ≤ 255) (q : Int) : Ev (fun k => monikerref4_Valid.f k l q) (validB l q) := by
  unfold monikerref4_Valid.f validB
  refine (RShaped_is l hl hk).bind ?_
  by_cases h : shapedB l = true
  · simp only [if_pos h]
    rw [h, Bool.true_and]
    exact rvalid_loop l hl q l.length 0 (by omega) (by omega)
  · simp only [if_neg h]
    rw [show shapedB l = false by simpa using h]
    exact Ev.now _
end Go.Proofs.Ytodldpdnhcafpaa.Q

namespace Go.Proofs.Ytodldpdnhcafpaa.Q
open Go.RowKit Go.Proofs.YtodldpdnhcafpaaW.PrintWords Go.Proofs.YtodldpdnhcafpaaW.PrintLast Go.Proofs.YtodldpdnhcafpaaW.PrintMore
open Go.Proofs.Ytodldpdnhcafpaa.F Go.Proofs.Ytodldpdnhcafpaa.K
set_option linter.unusedSimpArgs false
set_option linter.unusedVariables false

def ownSpec (l : List S61) (ns : List S47) (n : Int) : List Int :=
  if n < 0 then [] else if n ≥ (ns.length : Int) then [] else ownL ns (kidsOf ns n) (tokR l (mx (rd_T47 ns n).f1 0) (mn (rd_T47 ns n).f2 (l.length : Int)))

theorem kidsOf_in (ns : List S47) (n : Int) : ∀ x ∈ kidsOf ns n, 0 ≤ x ∧ x < (ns.length : Int) := by
  intro x hx
  unfold kidsOf at hx
  split at hx
  · unfold kspec at hx
    split at hx
    · rename_i hs
      have h := hs
      unfold sizedB at h
      simp only [Bool.and_eq_true, decide_eq_true_eq] at h
      obtain ⟨h1, h2, h3, h4⟩ := h
      have := kgo_mem ns (n + (rd_T47 ns n).f3) ns.length [] (n + 1) (n + 1) (Int.le_refl _) (fun y hy => by cases hy) x hx
      omega
    · cases hx
  · cases hx
theorem kidsOf_len (ns : List S47) (hl : ns.length ≤ 4398046511104) (n : Int) : (kidsOf ns n).length ≤ ns.length := by
  obtain ⟨_, h, _⟩ := Kids_all ns hl n
  unfold kidsOf
  split
  · exact h
  · simp

theorem Own_is (l : List S61) (hl : l.length ≤ 8796093022208) (ns : List S47) (hn : ns.length ≤ 4398046511104) (n : Int) : Ev (fun k => tree_Own.f k l ns n) (ownSpec l ns n) := by
  unfold tree_Own.f ownSpec
  by_cases h1 : n < 0
  · simp only [if_pos h1]; exact Ev.now _
  simp only [if_neg h1]
  by_cases h2 : n ≥ (ns.length : Int)
  · simp only [if_pos h2]; exact Ev.now _
  simp only [if_neg h2]
  refine (Kids_is ns hn n).bind ?_
  have := kidsOf_len ns hn n
  rw [if_pos ⟨by omega, by omega, kidsOf_in ns n⟩]
  exact Ev.now _

end Go.Proofs.Ytodldpdnhcafpaa.Q

namespace Go.Proofs.Ytodldpdnhcafpaa.Q
open Go.RowKit Go.Proofs.YtodldpdnhcafpaaW.PrintWords Go.Proofs.YtodldpdnhcafpaaW.PrintLast Go.Proofs.YtodldpdnhcafpaaW.PrintMore
open Go.Proofs.Ytodldpdnhcafpaa.F Go.Proofs.Ytodldpdnhcafpaa.K
set_option linter.unusedSimpArgs false
set_option linter.unusedVariables false

/-! In a valid tree each place of the first node's run lies in the run of just one node without lying in a kid's. -/
section
variable (l : List S47) (i : Int)
def inB (m : Int) : Bool := decide ((rd_T47 l m).f1 ≤ i) && decide (i < (rd_T47 l m).f2)
def ow (m : Int) : Nat := if (inB l i m && !heldB l (kidsOf l m) i) = true then 1 else 0
def sumS : Nat → Int → Nat
  | 0, _ => 0
  | f + 1, n => ow l i n + sumS f (n + 1)
def sumI : List Int → Nat
  | [] => 0
  | k :: ks => (if inB l i k = true then 1 else 0) + sumI ks
/-- The kids from x on, where all are in order. -/
def kl (en : Int) : Nat → Int → List Int
  | 0, _ => []
  | d + 1, x => if x < en then x :: kl en d (x + (rd_T47 l x).f3) else []
end

theorem sumS_add (l : List S47) (i : Int) : ∀ (a b : Nat) (n : Int), sumS l i (a + b) n = sumS l i a n + sumS l i b (n + a)
  | 0, b, n => by simp [sumS]
  | a + 1, b, n => by
    rw [show a + 1 + b = (a + b) + 1 by omega]
    simp only [sumS]
    rw [sumS_add l i a b (n + 1), show n + 1 + (a : Int) = n + ((a + 1 : Nat) : Int) by omega]
    omega
theorem kgo_kl (l : List S47) (en : Int) : ∀ (d : Nat) (pre : List Int) (x : Int), ck l en d x = true → (kgo l en d pre x).1 = pre ++ kl l en d x
  | 0, pre, x, _ => by simp [kgo, kl]
  | d + 1, pre, x, h => by
    simp only [ck] at h
    simp only [kgo, kl]
    split
    · rename_i c
      rw [if_pos c] at h
      split
      · rename_i c1
        rw [if_pos c1] at h
        cases h
      · rename_i c1
        rw [if_neg c1] at h
        split
        · rename_i c2
          rw [if_pos c2] at h
          cases h
        · rename_i c2
          rw [if_neg c2] at h
          rw [kgo_kl l en d _ _ h, List.append_assoc]
          rfl
    · simp
/-- Kids' runs do not meet. -/
theorem rf_sum (l : List S47) (i : Int) (q : Int) (nd : S47) : ∀ (ks : List Int) (a : Int), (∀ k ∈ ks, okS l q k = true) → rf l nd ks a = true →
    sumI l i ks = (if heldB l ks i = true then 1 else 0) ∧ (heldB l ks i = true → a ≤ i ∧ i < nd.f2)
  | [], a, _, _ => by simp [sumI, heldB]
  | k :: ks, a, hok, h => by
    have h1 := hok k List.mem_cons_self
    unfold okS at h1
    simp only [Bool.and_eq_true, decide_eq_true_eq] at h1
    have hc : heldB l (k :: ks) i = (inB l i k || heldB l ks i) := by simp [heldB, inB]
    simp only [rf] at h
    by_cases c : (rd_T47 l k).f1 = (rd_T47 l k).f2
    · rw [if_pos c] at h
      have hn : inB l i k = false := by
        unfold inB
        by_cases c1 : (rd_T47 l k).f1 ≤ i
        · rw [decide_eq_false (show ¬ i < (rd_T47 l k).f2 by omega), Bool.and_false]
        · rw [decide_eq_false c1, Bool.false_and]
      split at h
      · cases h
      · obtain ⟨i1, i2⟩ := rf_sum l i q nd ks a (fun k hk => hok k (List.mem_cons_of_mem _ hk)) h
        rw [hc, hn, Bool.false_or]
        refine ⟨?_, i2⟩
        simp only [sumI, hn]
        rw [i1]
        simp
    · rw [if_neg c] at h
      split at h
      · cases h
      · rename_i c1
        split at h
        · cases h
        · rename_i c2
          obtain ⟨i1, i2⟩ := rf_sum l i q nd ks (rd_T47 l k).f2 (fun k hk => hok k (List.mem_cons_of_mem _ hk)) h
          rw [hc]
          by_cases hi : inB l i k = true
          · have hi' := hi
            unfold inB at hi'
            simp only [Bool.and_eq_true, decide_eq_true_eq] at hi'
            have hn : heldB l ks i = false := by
              cases hh : heldB l ks i with
              | false => rfl
              | true => have := (i2 hh).1; omega
            rw [hn] at i1
            simp only [sumI, hi, i1, hn]
            refine ⟨by simp, fun _ => ⟨by omega, by omega⟩⟩
          · have hi' : inB l i k = false := by simpa using hi
            rw [hi', Bool.false_or]
            refine ⟨?_, fun hh => ⟨by have := (i2 hh).1; omega, (i2 hh).2⟩⟩
            simp only [sumI, hi']
            rw [i1]
            simp

theorem chain_sum (l : List S47) (i : Int) (lo en : Int) (hen : en ≤ (l.length : Int)) (hT : ∀ m, lo ≤ m → m < (l.length : Int) → sumS l i (rd_T47 l m).f3.toNat m = (if inB l i m = true then 1 else 0)) : ∀ (d : Nat) (x : Int), lo ≤ x → 0 ≤ x → x ≤ en → en - x ≤ d → ck l en d x = true →
    sumS l i (en - x).toNat x = sumI l i (kl l en d x)
  | 0, x, _, h0, hx, hd, _ => by
    rw [show (en - x).toNat = 0 by omega]
    rfl
  | d + 1, x, hl, h0, hx, hd, h => by
    simp only [ck] at h
    simp only [kl]
    by_cases c : x < en
    · rw [if_pos c] at h ⊢
      split at h
      · cases h
      · rename_i c1
        split at h
        · cases h
        · rename_i c2
          have ih := chain_sum l i lo en hen hT d (x + (rd_T47 l x).f3) (by omega) (by omega) (by omega) (by omega) h
          have e : (en - x).toNat = (rd_T47 l x).f3.toNat + (en - (x + (rd_T47 l x).f3)).toNat := by omega
          rw [e, sumS_add, hT x hl (by omega)]
          have e2 : x + (((rd_T47 l x).f3.toNat : Nat) : Int) = x + (rd_T47 l x).f3 := by omega
          rw [e2, ih]
          rfl
    · rw [if_neg c]
      rw [show (en - x).toNat = 0 by omega]
      rfl

theorem allR_at (l : List S47) (q : Int) : ∀ (f : Nat) (n : Int), allR l q f n = true → ∀ m, n ≤ m → m < n + f → okS l q m = true ∧ rf l (rd_T47 l m) (kidsOf l m) (rd_T47 l m).f1 = true
  | 0, n, _, m, h1, h2 => by omega
  | f + 1, n, h, m, h1, h2 => by
    simp only [allR, Bool.and_eq_true] at h
    by_cases c : n = m
    · subst c
      exact ⟨h.1, h.2.1⟩
    · exact allR_at l q f (n + 1) h.2.2 m (by omega) (by omega)

theorem subtree_sum (l : List S47) (q i : Int) (hg : ∀ m, 0 ≤ m → m < (l.length : Int) → (kspec l m).2 = true) (hr : ∀ m, 0 ≤ m → m < (l.length : Int) → okS l q m = true ∧ rf l (rd_T47 l m) (kidsOf l m) (rd_T47 l m).f1 = true) :
    ∀ (f : Nat) (n : Int), (l.length : Int) - n ≤ f → 0 ≤ n → ∀ m, n ≤ m → m < (l.length : Int) → sumS l i (rd_T47 l m).f3.toNat m = (if inB l i m = true then 1 else 0)
  | 0, n, hf, h0, m, h1, h2 => by omega
  | f + 1, n, hf, h0, m, h1, h2 => by
    by_cases c : m = n
    · subst c
      have ih := subtree_sum l q i hg hr f (m + 1) (by omega) (by omega)
      have hk := hg m h0 h2
      obtain ⟨ok, hrf⟩ := hr m h0 h2
      have hkC := hk
      unfold kspec at hk
      split at hk
      · rename_i hs
        have h := hs
        unfold sizedB at h
        simp only [Bool.and_eq_true, decide_eq_true_eq] at h
        obtain ⟨a1, a2, a3, a4⟩ := h
        rw [kgo_ck] at hk
        have hkl : kidsOf l m = kl l (m + (rd_T47 l m).f3) l.length (m + 1) := by
          unfold kidsOf
          rw [if_pos hkC]
          unfold kspec
          rw [if_pos hs, kgo_kl l _ _ _ _ hk, List.nil_append]
        have hch := chain_sum l i (m + 1) (m + (rd_T47 l m).f3) (by omega) (fun k hk1 hk2 => ih k hk1 hk2) l.length (m + 1) (Int.le_refl _) (by omega) (by omega) (by omega) hk
        rw [← hkl] at hch
        obtain ⟨r1, r2⟩ := rf_sum l i q (rd_T47 l m) (kidsOf l m) (rd_T47 l m).f1 (fun k hk => by
          obtain ⟨b1, b2⟩ := kidsOf_in l m k hk
          exact (hr k b1 b2).1) hrf
        have e : (rd_T47 l m).f3.toNat = (m + (rd_T47 l m).f3 - (m + 1)).toNat + 1 := by omega
        rw [e]
        simp only [sumS]
        rw [hch, r1]
        unfold ow
        cases hh : heldB l (kidsOf l m) i with
        | false => simp
        | true =>
          obtain ⟨b1, b2⟩ := r2 hh
          have hin : inB l i m = true := by
            unfold inB
            rw [decide_eq_true b1, decide_eq_true b2]
            rfl
          simp [hin]
      · cases hk
    · exact subtree_sum l q i hg hr f (n + 1) (by omega) (by omega) m (by omega) h2

/-- Each place of the first node's run is an own place of just one node. -/
theorem count_root (l : List S47) (q i : Int) (h : validB l q = true) : sumS l i l.length 0 = (if inB l i 0 = true then 1 else 0) := by
  unfold validB shapedB at h
  simp only [Bool.and_eq_true, decide_eq_true_eq] at h
  obtain ⟨⟨h1, h2, h3⟩, h4⟩ := h
  have hg : ∀ m, 0 ≤ m → m < (l.length : Int) → (kspec l m).2 = true := fun m a b => allG_at l l.length 0 h3 m a (by omega)
  have hr := fun m (a : 0 ≤ m) (b : m < (l.length : Int)) => allR_at l q l.length 0 h4 m a (by omega)
  have := subtree_sum l q i hg hr l.length 0 (by omega) (Int.le_refl _) 0 (Int.le_refl _) (by omega)
  rw [h2] at this
  simpa using this
end Go.Proofs.Ytodldpdnhcafpaa.Q

namespace Go.Proofs.Ytodldpdnhcafpaa.Q
open Go.RowKit Go.Proofs.YtodldpdnhcafpaaW.PrintWords Go.Proofs.YtodldpdnhcafpaaW.PrintLast Go.Proofs.YtodldpdnhcafpaaW.PrintMore
open Go.Proofs.Ytodldpdnhcafpaa.F Go.Proofs.Ytodldpdnhcafpaa.K
set_option linter.unusedSimpArgs false
set_option linter.unusedVariables false

theorem rd_drop {ts : List Int} {i : Int} (h0 : 0 ≤ i) (hi : i < (ts.length : Int)) : ts.drop i.toNat = rd ts i :: ts.drop (i + 1).toNat ∧ rd ts i ∈ ts := by
  have hin : i.toNat < ts.length := by omega
  have e : rd ts i = ts[i.toNat] := by simp [rd, List.getD_eq_getElem?_getD, hin]
  have e1 : (i + 1).toNat = i.toNat + 1 := by omega
  exact ⟨by rw [e1, List.drop_eq_getElem_cons hin, e], by rw [e]; exact List.getElem_mem _⟩

theorem tok_len (l : List S61) (x : S47) : (tokR l (mx x.f1 0) (mn x.f2 (l.length : Int))).length ≤ l.length := by
  have h0 : 0 ≤ mx x.f1 0 := by unfold mx; split <;> omega
  have h3 : mn x.f2 (l.length : Int) ≤ (l.length : Int) := by unfold mn; split <;> omega
  refine Nat.le_trans (tokR_len l _ _) ?_
  omega

end Go.Proofs.Ytodldpdnhcafpaa.Q

namespace Go.Proofs.Ytodldpdnhcafpaa.Q
open Go.RowKit Go.Proofs.YtodldpdnhcafpaaW.PrintWords Go.Proofs.YtodldpdnhcafpaaW.PrintLast Go.Proofs.YtodldpdnhcafpaaW.PrintMore
open Go.Proofs.Ytodldpdnhcafpaa.F Go.Proofs.Ytodldpdnhcafpaa.K
set_option linter.unusedSimpArgs false
set_option linter.unusedVariables false

theorem tokR_mem (l : List S61) (a b i : Int) : i ∈ tokR l a b ↔ (a ≤ i ∧ i < b) ∧ tokB l i = true := by
  unfold tokR
  rw [List.mem_filter, List.mem_map]
  constructor
  · rintro ⟨⟨j, hj, rfl⟩, h⟩
    have := List.mem_range.1 hj
    exact ⟨⟨by omega, by omega⟩, h⟩
  · rintro ⟨⟨h1, h2⟩, h⟩
    exact ⟨⟨(i - a).toNat, List.mem_range.2 (by omega), by omega⟩, h⟩
theorem tokR_sorted (l : List S61) (a b : Int) : (tokR l a b).Pairwise (· < ·) := by
  unfold tokR
  refine List.Pairwise.filter _ (List.pairwise_map.2 ?_)
  refine List.Pairwise.imp ?_ List.pairwise_lt_range
  intro x y h
  omega
theorem own_sorted (ps : List S61) (ns : List S47) (n : Int) : (ownSpec ps ns n).Pairwise (· < ·) := by
  unfold ownSpec
  split
  · exact List.Pairwise.nil
  split
  · exact List.Pairwise.nil
  · exact List.Pairwise.filter _ (tokR_sorted _ _ _)
theorem own_mem (ps : List S61) (ns : List S47) (n i : Int) (h0 : 0 ≤ n) (hn : n < (ns.length : Int)) : i ∈ ownSpec ps ns n ↔ (0 ≤ i ∧ i < (ps.length : Int)) ∧ tokB ps i = true ∧ inB ns i n = true ∧ heldB ns (kidsOf ns n) i = false := by
  unfold ownSpec ownL inB
  rw [if_neg (by omega), if_neg (by omega), List.mem_filter, tokR_mem]
  simp only [Bool.not_eq_true', Bool.and_eq_true, decide_eq_true_eq]
  have e1 : mx (rd_T47 ns n).f1 0 ≤ i ↔ (rd_T47 ns n).f1 ≤ i ∧ 0 ≤ i := by unfold mx; split <;> omega
  have e2 : i < mn (rd_T47 ns n).f2 (ps.length : Int) ↔ i < (rd_T47 ns n).f2 ∧ i < (ps.length : Int) := by unfold mn; split <;> omega
  rw [e1, e2]
  constructor
  · rintro ⟨⟨⟨⟨a, b⟩, c, d⟩, e⟩, f⟩; exact ⟨⟨b, d⟩, e, ⟨a, c⟩, f⟩
  · rintro ⟨⟨b, d⟩, e, ⟨a, c⟩, f⟩; exact ⟨⟨⟨⟨a, b⟩, c, d⟩, e⟩, f⟩

theorem rd_set (c : List Int) (a i v : Int) (h0 : 0 ≤ a) (h1 : a < (c.length : Int)) (hi : 0 ≤ i) : rd (c.set a.toNat v) i = if i = a then v else rd c i := by
  unfold rd
  rw [List.getD_eq_getElem?_getD, List.getElem?_set, List.getD_eq_getElem?_getD]
  by_cases c1 : i = a
  · subst c1
    rw [if_pos rfl, if_pos rfl, if_pos (by omega)]
    rfl
  · rw [if_neg c1, if_neg (by omega)]
def inc (c : List Int) (t : List Int) : List Int := t.foldl (fun c x => c.set x.toNat (rd c x + 1)) c
theorem inc_len : ∀ (t c : List Int), (inc c t).length = c.length
  | [], _ => rfl
  | x :: t, c => by
    show (inc (c.set x.toNat (rd c x + 1)) t).length = _
    rw [inc_len t]
    simp
theorem inc_rd : ∀ (t c : List Int), t.Pairwise (· < ·) → (∀ x ∈ t, 0 ≤ x ∧ x < (c.length : Int)) → ∀ i, 0 ≤ i → rd (inc c t) i = rd c i + (if i ∈ t then 1 else 0)
  | [], c, _, _, i, _ => by simp [inc]
  | x :: t, c, hs, hb, i, hi => by
    obtain ⟨b0, b1⟩ := hb x List.mem_cons_self
    obtain ⟨hx, ht⟩ := List.pairwise_cons.1 hs
    show rd (inc (c.set x.toNat (rd c x + 1)) t) i = _
    rw [inc_rd t _ ht (fun y hy => by have := hb y (List.mem_cons_of_mem _ hy); simpa using this) i hi, rd_set c x i _ b0 b1 hi]
    by_cases c1 : i = x
    · subst c1
      have : i ∉ t := fun h => by have := hx i h; omega
      simp [this]
    · simp [c1]

theorem tok_inner (t : ByteArray) (ps : List S61) (ns : List S47) (n N : Int) (h0 : 0 ≤ n) (hn : n < (ns.length : Int)) (hn2 : n ≤ 4398046511104) (ts : List Int) (htl : ts.length ≤ 8796093022208) (hF : ∀ x ∈ ts, (rd_T47 ns n).f1 ≤ x ∧ x < (rd_T47 ns n).f2 ∧ 0 ≤ x ∧ x < (ps.length : Int)) (hs : ts.Pairwise (· < ·)) (r : Bool) (d : Nat) :
    ∀ (j last : Int) (c : List Int), 0 ≤ j → (ts.length : Int) - j ≤ d → c.length = ps.length → (∀ x ∈ ts.drop j.toNat, last < x) → (∀ x ∈ ts.drop j.toNat, 0 ≤ rd c x ∧ rd c x ≤ 4398046511104) →
    Ev (fun k => monikerlaw4_TreeTokens.l0 k (inc c (ts.drop j.toNat)) N (n + 1) t ps ns ns) r →
    Ev (fun k => monikerlaw4_TreeTokens.l1 k c n last N n ts (ts.length : Int) j t ps ns ns) r := by
  have hend : ∀ (j last : Int) (c : List Int), ¬ j < (ts.length : Int) → Ev (fun k => monikerlaw4_TreeTokens.l0 k (inc c (ts.drop j.toNat)) N (n + 1) t ps ns ns) r → Ev (fun k => monikerlaw4_TreeTokens.l1 k c n last N n ts (ts.length : Int) j t ps ns ns) r := by
    intro j last c hj h
    rw [List.drop_eq_nil_of_le (by omega)] at h
    refine Ev.step (fun k => ?_) h
    simp only [monikerlaw4_TreeTokens.l1]
    rw [if_neg hj, kw64 (by omega) (by omega)]
    rfl
  induction d with
  | zero => intro j last c hj hd _ _ _ h; exact hend j last c (by omega) h
  | succ d ih =>
    intro j last c hj hd hc hl hb h
    by_cases q : j < (ts.length : Int)
    · obtain ⟨e, hm⟩ := rd_drop hj q
      obtain ⟨f1, f2, f3, f4⟩ := hF _ hm
      rw [e] at hl hb h
      have hlast := hl _ List.mem_cons_self
      obtain ⟨b1, b2⟩ := hb _ List.mem_cons_self
      have hss : (rd ts j :: ts.drop (j + 1).toNat).Pairwise (· < ·) := by rw [← e]; exact hs.drop
      obtain ⟨hlt, _⟩ := List.pairwise_cons.1 hss
      have hcx : rd ts j < (c.length : Int) := by omega
      refine Ev.step (fun k => ?_) (ih (j + 1) (rd ts j) (c.set (rd ts j).toNat (rd c (rd ts j) + 1)) (by omega) (by omega) (by simpa using hc) hlt (fun x hx => ?_) h)
      · simp only [monikerlaw4_TreeTokens.l1]
        rw [if_pos q, if_pos hj, if_pos q, if_neg (by omega), if_pos h0, if_pos hn, if_neg (by omega), if_neg (by omega), if_pos f3, if_pos hcx, kw64 (x := rd c (rd ts j) + 1) (by omega) (by omega), kw64 (x := j + 1) (by omega) (by omega)]
      · have h1 := hlt x hx
        rw [rd_set c _ x _ f3 hcx (by omega), if_neg (by omega)]
        exact hb x (List.mem_cons_of_mem _ hx)
    · exact hend j last c q h

theorem sumS_le (ns : List S47) (i : Int) : ∀ (f : Nat) (n : Int), sumS ns i f n ≤ f
  | 0, _ => Nat.le_refl _
  | f + 1, n => by
    have := sumS_le ns i f (n + 1)
    simp only [sumS]
    have h1 : ow ns i n ≤ 1 := by unfold ow; split <;> omega
    omega
def cs (ps : List S61) (ns : List S47) (n i : Int) : Int := if tokB ps i = true then (sumS ns i n.toNat 0 : Int) else 0

theorem tok_final (ps : List S61) (ns : List S47) (hl : ps.length ≤ 8796093022208) (hns : 0 < ns.length) (c : List Int) (hc : c.length = ps.length) (hv : ∀ i, 0 ≤ i → i < (ps.length : Int) → rd c i = if tokB ps i = true then (if inB ns i 0 = true then 1 else 0) else 0) (d : Nat) :
    ∀ i : Int, 0 ≤ i → (ps.length : Int) - i ≤ d → Ev (fun k => monikerlaw4_TreeTokens.l2 k c ps (ps.length : Int) i ns) true := by
  have hend : ∀ i : Int, ¬ i < (ps.length : Int) → Ev (fun k => monikerlaw4_TreeTokens.l2 k c ps (ps.length : Int) i ns) true := by
    intro i hi
    refine Ev.step (fun k => ?_) (Ev.now true)
    simp only [monikerlaw4_TreeTokens.l2]
    rw [if_neg hi]
  induction d with
  | zero => intro i h0 hd; exact hend i (by omega)
  | succ d ih =>
    intro i h0 hd
    by_cases q : i < (ps.length : Int)
    · have ih' := ih (i + 1) (by omega) (by omega)
      have hw : wrap64 (i + 1) = i + 1 := kw64 (by omega) (by omega)
      have hci : i < (c.length : Int) := by omega
      have hz : rd c i = 0 → Ev (fun k => monikerlaw4_TreeTokens.j3 k c i 1 ps (ps.length : Int) i true ns) true := fun h => by
        refine Ev.step (fun k => ?_) ih'
        simp only [monikerlaw4_TreeTokens.j3]
        rw [if_pos trivial, if_pos h0, if_pos hci, if_pos h, hw]
      have ho : rd c i = 1 → Ev (fun k => monikerlaw4_TreeTokens.j3 k c i 1 ps (ps.length : Int) i false ns) true := fun h => by
        refine Ev.step (fun k => ?_) ih'
        simp only [monikerlaw4_TreeTokens.j3]
        rw [if_neg (by simp), if_pos h0, if_pos hci, if_pos h, hw]
      have hvi := hv i h0 q
      by_cases k0 : (rd_T61 ps i).f0 = 0
      · have ht : tokB ps i = false := by simp [tokB, k0]
        rw [ht] at hvi
        refine Ev.step (fun k => ?_) (hz (by simpa using hvi))
        simp only [monikerlaw4_TreeTokens.l2]
        rw [if_pos q, if_pos h0, if_pos q, if_pos k0]
      · by_cases k1 : (rd_T61 ps i).f0 = 1
        · have ht : tokB ps i = false := by simp [tokB, k1]
          rw [ht] at hvi
          refine Ev.step (fun k => ?_) (hz (by simpa using hvi))
          simp only [monikerlaw4_TreeTokens.l2]
          rw [if_pos q, if_pos h0, if_pos q, if_neg k0, if_pos k1]
        · have ht : tokB ps i = true := by simp [tokB, k0, k1]
          rw [ht, if_pos rfl] at hvi
          unfold inB at hvi
          by_cases r1 : i < (rd_T47 ns 0).f1
          · rw [decide_eq_false (show ¬ (rd_T47 ns 0).f1 ≤ i by omega), Bool.false_and] at hvi
            refine Ev.step (fun k => ?_) (hz (by simpa using hvi))
            simp only [monikerlaw4_TreeTokens.l2]
            rw [if_pos q, if_pos h0, if_pos q, if_neg k0, if_neg k1, if_pos (by omega), if_pos r1]
          · rw [decide_eq_true (show (rd_T47 ns 0).f1 ≤ i by omega), Bool.true_and] at hvi
            by_cases r2 : i ≥ (rd_T47 ns 0).f2
            · rw [decide_eq_false (show ¬ i < (rd_T47 ns 0).f2 by omega)] at hvi
              refine Ev.step (fun k => ?_) (hz (by simpa using hvi))
              simp only [monikerlaw4_TreeTokens.l2]
              rw [if_pos q, if_pos h0, if_pos q, if_neg k0, if_neg k1, if_pos (by omega), if_neg r1, decide_eq_true r2]
            · rw [decide_eq_true (show i < (rd_T47 ns 0).f2 by omega)] at hvi
              refine Ev.step (fun k => ?_) (ho (by simpa using hvi))
              simp only [monikerlaw4_TreeTokens.l2]
              rw [if_pos q, if_pos h0, if_pos q, if_neg k0, if_neg k1, if_pos (by omega), if_neg r1, decide_eq_false r2]
    · exact hend i q

theorem tok_outer (t : ByteArray) (ps : List S61) (ns : List S47) (hl : ps.length ≤ 8796093022208) (hn : ns.length ≤ 4398046511104) (hns : 0 < ns.length) (q : Int) (hv : validB ns q = true) (d : Nat) :
    ∀ (n : Int) (c : List Int), 0 ≤ n → (ns.length : Int) - n = d → c.length = ps.length → (∀ i, 0 ≤ i → i < (ps.length : Int) → rd c i = cs ps ns n i) →
    Ev (fun k => monikerlaw4_TreeTokens.l0 k c (ns.length : Int) n t ps ns ns) true := by
  induction d with
  | zero =>
    intro n c h0 hd hc hr
    obtain rfl : n = (ns.length : Int) := by omega
    refine Ev.step (fun k => ?_) (tok_final ps ns hl hns c hc (fun i a b => ?_) ps.length 0 (Int.le_refl _) (by omega))
    · simp only [monikerlaw4_TreeTokens.l0]
      rw [if_neg (by omega)]
    · rw [hr i a b]
      unfold cs
      rw [show ((ns.length : Int)).toNat = ns.length by omega, count_root ns q i hv]
      split
      · split <;> simp
      · rfl
  | succ d ih =>
    intro n c h0 hd hc hr
    have hlt : n < (ns.length : Int) := by omega
    refine Ev.step (f := fun k => (tree_Own.f k ps ns n).bind fun t331 => (monikerlaw4_TreeTokens.l1 k c n (-1) (ns.length : Int) n t331 (t331.length : Int) 0 t ps ns ns)) (fun k => ?_) ?_
    · simp only [monikerlaw4_TreeTokens.l0]
      rw [if_pos hlt]
    refine (Own_is ps hl ns hn n).bind ?_
    have hmem := own_mem ps ns n
    have hin : ∀ x ∈ ownSpec ps ns n, (rd_T47 ns n).f1 ≤ x ∧ x < (rd_T47 ns n).f2 ∧ 0 ≤ x ∧ x < (ps.length : Int) := fun x hx => by
      obtain ⟨⟨a, b⟩, _, e, _⟩ := (hmem x h0 hlt).1 hx
      unfold inB at e
      simp only [Bool.and_eq_true, decide_eq_true_eq] at e
      exact ⟨e.1, e.2, a, b⟩
    have hlen : (ownSpec ps ns n).length ≤ 8796093022208 := by
      unfold ownSpec
      split
      · simp
      split
      · simp
      · unfold ownL
        have := tok_len ps (rd_T47 ns n)
        exact Nat.le_trans (List.length_filter_le _ _) (by omega)
    refine tok_inner t ps ns n (ns.length : Int) h0 hlt (by omega) (ownSpec ps ns n) hlen hin (own_sorted ps ns n) true (ownSpec ps ns n).length 0 (-1) c (Int.le_refl _) (by omega) hc (fun x hx => ?_) (fun x hx => ?_) ?_
    · have := (hin x (by simpa using hx)).2.2.1
      omega
    · obtain ⟨_, _, a, b⟩ := hin x (by simpa using hx)
      rw [hr x a b]
      unfold cs
      have := sumS_le ns x n.toNat 0
      split <;> omega
    · show Ev (fun k => monikerlaw4_TreeTokens.l0 k (inc c (ownSpec ps ns n)) (ns.length : Int) (n + 1) t ps ns ns) true
      refine ih (n + 1) _ (by omega) (by omega) (by rw [inc_len]; exact hc) (fun i a b => ?_)
      rw [inc_rd _ _ (own_sorted ps ns n) (fun x hx => by have := hin x hx; omega) i a, hr i a b]
      have e : (n + 1).toNat = n.toNat + 1 := by omega
      have e2 : (0 : Int) + (n.toNat : Int) = n := by omega
      unfold cs
      rw [e, sumS_add, e2]
      by_cases ht : tokB ps i = true
      · rw [if_pos ht, if_pos ht]
        have how : (if i ∈ ownSpec ps ns n then (1 : Int) else 0) = ((sumS ns i 1 n : Nat) : Int) := by
          simp only [sumS, ow]
          by_cases hm : i ∈ ownSpec ps ns n
          · obtain ⟨_, _, x1, x2⟩ := (hmem i h0 hlt).1 hm
            rw [if_pos hm, if_pos (by rw [x1, x2]; rfl)]
            rfl
          · rw [if_neg hm, if_neg (fun hh => hm ((hmem i h0 hlt).2 ⟨⟨a, b⟩, ht, by simp only [Bool.and_eq_true, Bool.not_eq_true'] at hh; exact hh⟩))]
            rfl
        rw [how]
        omega
      · rw [if_neg ht, if_neg ht, if_neg (fun hm => ht ((hmem i h0 hlt).1 hm).2.1)]
        rfl

theorem TreeTokens_is (t : ByteArray) (ps : List S61) (ns : List S47) (hl : ps.length ≤ 8796093022208) (hn : ns.length ≤ 4398046511104) (hk : ∀ x ∈ ns, 0 ≤ x.f0 ∧ x.f0 ≤ 255) : Ev (fun k => monikerlaw4_TreeTokens.f k t ps ns) true := by
  unfold monikerlaw4_TreeTokens.f
  refine (RValid_is ns hn hk (ps.length : Int)).bind ?_
  cases hv : validB ns (ps.length : Int) with
  | false =>
    simp only [Bool.false_eq_true, if_false]
    refine (Valid_is ns hn (ps.length : Int)).bind ?_
    rw [hv]
    exact Ev.now true
  | true =>
    simp only [if_true]
    have hns : 0 < ns.length := by
      unfold validB shapedB at hv
      simp only [Bool.and_eq_true, decide_eq_true_eq] at hv
      exact hv.1.1
    simp only [if_pos (show 0 ≤ (ps.length : Int) by omega), if_pos (show ((ps.length : Int)).toNat ≤ 35184372088832 by omega)]
    refine tok_outer t ps ns hl hn hns (ps.length : Int) hv ns.length 0 _ (Int.le_refl _) (by omega) (by simp) (fun i a b => ?_)
    unfold cs rd
    rw [List.getD_eq_getElem?_getD, List.getElem?_replicate]
    simp [sumS]
    split <;> rfl
end Go.Proofs.Ytodldpdnhcafpaa.Q

namespace Go.Proofs.Ytodldpdnhcafpaa.O
open Go.ChangeShapes Go.WideShapes Go.Deep Go.Proofs.YtodldpdnhcafpaaW.PrintWords

/-- What a value of type t that came in is, as a Lean value of kind d; and what is known of it. -/
def Opens {α : Type} (P : Program) (t : TypeId) (d : Kd α) (B : α → Prop) : Prop :=
  ∀ {H : Type} {enc : TypeId × Value → H} {w : World} {base : Nat} {spare : Nat → Bool} {held : Bool} {fuel : Nat} {cs : List Value} {x : DataW H × List MemPlace},
    DataW.trod enc P w base spare held fuel t cs = some x → (∀ n ∈ x.1.weights P t, n ≤ reachBytes) → ∃ a, d.K w a cs ∧ B a

theorem Opens.imp {α : Type} {P : Program} {t : TypeId} {d : Kd α} {B B' : α → Prop} (h : Opens P t d B) (hb : ∀ a, B a → B' a) : Opens P t d B' := fun h1 h2 => by
  obtain ⟨a, h3, h4⟩ := h h1 h2
  exact ⟨a, h3, hb a h4⟩
theorem opens_int {P : Program} {t : TypeId} {k : IntKind} (hu : P.underlying t = some (.int k)) : Opens P t (Kd.int k) (fun n => (Lit.int k n).wf = true) := fun h _ => by
  obtain ⟨n, rfl, rfl, hw⟩ := DataW.trod_int hu h
  exact ⟨n, rfl, hw⟩
theorem opens_string {P : Program} {t : TypeId} (hu : P.underlying t = some .string) : Opens P t Kd.string (fun s => s.size ≤ 140737488351232) := fun h hw => by
  obtain ⟨s, rfl, rfl, _⟩ := DataW.trod_string hu h
  refine ⟨s, rfl, ?_⟩
  have := hw s.data.toList.length (by simp [DataW.weights])
  rw [Array.length_toList] at this
  exact this

theorem mem_weightsAll {H : Type} {P : Program} {e : TypeId} : ∀ {l : List (DataW H)} {y : DataW H}, y ∈ l → ∀ n ∈ y.weights P e, n ∈ DataW.weightsAll P e l
  | y0 :: l, y, h, n, hn => by
    simp only [DataW.weightsAll, List.mem_append]
    rcases List.mem_cons.1 h with rfl | h
    · exact .inl hn
    · exact .inr (mem_weightsAll h n hn)

/-- A slice that came in, its address and capacity told. -/
theorem open_row {α : Type} {P : Program} {t e : TypeId} {d : Kd α} {B : α → Prop} (hu : P.underlying t = some (.slice e)) (he : Opens P e d B) (hc : P.cellsOf e = d.sz)
    {H : Type} {enc : TypeId × Value → H} {w : World} {base : Nat} {spare : Nat → Bool} {held : Bool} {fuel : Nat} {A : Option Addr} {n c : Nat} {x : DataW H × List MemPlace}
    (h : DataW.trod enc P w base spare held fuel t [.slice A n c] = some x) (hw : ∀ n ∈ x.1.weights P t, n ≤ reachBytes) :
    ∃ xs : List α, xs.length = n ∧ d.C w A n xs ∧ n ≤ c ∧ (A = none → c = 0) ∧ (∀ a ∈ xs, B a) ∧ n * P.bytesOf e ≤ 140737488351232 := by
  rcases open_slice hu h with ⟨hcs, rfl⟩ | ⟨a, len, cap, m, fu, D, Pl, hcs, hb, hl, hm, hmm, rfl, hel⟩
  · simp only [List.cons.injEq, Value.slice.injEq, and_true] at hcs
    obtain ⟨rfl, rfl, rfl⟩ := hcs
    exact ⟨[], rfl, ⟨rfl, by omega, fun h0 => absurd h0 (by omega)⟩, by omega, fun _ => rfl, (fun a ha => by cases ha), by omega⟩
  · simp only [List.cons.injEq, Value.slice.injEq, and_true] at hcs
    obtain ⟨rfl, rfl, rfl⟩ := hcs
    have hlm : n ≤ m := by rw [hmm]; split <;> omega
    have hex : ∀ i, i < n → ∃ v : α, (∃ cs, d.K w v cs ∧ ∀ j u, cs[j]? = some u → w.cell? (a.add (i * d.sz + j)) = some u) ∧ B v := by
      intro i hi
      obtain ⟨cs', hc1, hc2⟩ := hel i (by omega)
      have hmem : D i ∈ (List.range n).map D := List.mem_map.2 ⟨i, List.mem_range.2 hi, rfl⟩
      obtain ⟨v, hv, hB⟩ := he hc2 (fun q hq => hw q (by
        simp only [DataW.weights, hu, List.mem_cons, List.mem_append]
        exact .inr (.inl (mem_weightsAll hmem q hq))))
      refine ⟨v, ⟨cs', hv, fun j u hj => ?_⟩, hB⟩
      obtain ⟨_, hcl, hat⟩ := World.cells?_some hc1
      have hjl : j < cs'.length := (List.getElem?_eq_some_iff.1 hj).1
      have := hat j (by omega)
      rw [hc] at this
      rw [← Go.Deep.add_add, this, hj]
    have key : ∀ k, k ≤ n → ∃ xs : List α, xs.length = k ∧ (∀ j p, xs[j]? = some p → (∃ cs, cs.length = d.sz ∧ d.K w p cs ∧ ∀ i u, cs[i]? = some u → w.cell? (a.add (j * d.sz + i)) = some u) ∧ B p) := by
      intro k
      induction k with
      | zero => intro _; exact ⟨[], rfl, fun j p hj => by simp at hj⟩
      | succ k ih =>
        intro hk
        obtain ⟨xs, hx, hxs⟩ := ih (by omega)
        obtain ⟨v, ⟨cs, hv, hcell⟩, hB⟩ := hex k (by omega)
        refine ⟨xs ++ [v], by simp [hx], fun j p hj => ?_⟩
        rcases Nat.lt_or_ge j k with hjk | hjk
        · rw [List.getElem?_append_left (by omega)] at hj
          exact hxs j p hj
        · have hjl := (List.getElem?_eq_some_iff.1 hj).1
          rw [List.length_append, List.length_singleton] at hjl
          obtain rfl : j = k := by omega
          have hp : v = p := by simpa [List.getElem?_append_right, hx] using hj
          subst hp
          exact ⟨⟨cs, d.K_len hv, hv, hcell⟩, hB⟩
    obtain ⟨xs, hx, hxs⟩ := key n (Nat.le_refl _)
    refine ⟨xs, hx, ⟨hx, by have : maxLen = 9223372036854775807 := rfl; omega, fun _ => ⟨a, rfl, fun j p hj => (hxs j p hj).1⟩⟩, hl, (fun h => by cases h), fun v hv => ?_, ?_⟩
    · obtain ⟨j, hj, rfl⟩ := List.mem_iff_getElem.1 hv
      exact (hxs j _ (List.getElem?_eq_getElem hj)).2
    · have := hw ((((List.range n).map D).length + ((List.range (m - n)).map fun j => D (n + j)).length) * P.bytesOf e) (by
        simp only [DataW.weights, hu]
        exact List.mem_cons_self)
      simp only [List.length_map, List.length_range] at this
      have h2 : n * P.bytesOf e ≤ (n + (m - n)) * P.bytesOf e := Nat.mul_le_mul_right _ (by omega)
      have h3 : reachBytes = 140737488351232 := rfl
      omega

end Go.Proofs.Ytodldpdnhcafpaa.O

namespace Go.Proofs.Ytodldpdnhcafpaa.H
open Go.ChangeShapes Go.WideShapes Go.Deep Go.Proofs.YtodldpdnhcafpaaW.PrintWords Go.Proofs.Ytodldpdnhcafpaa.F

theorem cells3 : Try.prog.cellsOf 3 = 1 := by kernel_rfl
theorem cells9 : Try.prog.cellsOf 9 = 1 := by kernel_rfl
theorem cells22 : Try.prog.cellsOf 22 = 1 := by kernel_rfl
theorem cells23 : Try.prog.cellsOf 23 = 1 := by kernel_rfl
theorem cells25 : Try.prog.cellsOf 25 = 1 := by kernel_rfl
theorem cells27 : Try.prog.cellsOf 27 = 3 := by kernel_rfl
theorem cells45 : Try.prog.cellsOf 45 = 1 := by kernel_rfl
theorem cells59 : Try.prog.cellsOf 59 = 1 := by kernel_rfl
theorem bytes61 : Try.prog.bytesOf 61 = 24 := by kernel_rfl
theorem bytes47 : Try.prog.bytesOf 47 = 32 := by kernel_rfl
def B61 (x : S61) : Prop := (Lit.int .u8 x.f0).wf = true ∧ (Lit.int .i64 x.f1).wf = true ∧ (Lit.int .i64 x.f2).wf = true
theorem cells61 : Try.prog.cellsOf 61 = 3 := by kernel_rfl
theorem opens61 : O.Opens Try.prog 61 k61 B61 := by
  intro H enc w base spare held fuel cs x h hw
  obtain ⟨ys, n, rfl, rfl, hlen, hyl, hf⟩ := DataW.trod_struct Try.underlying61 h
  rw [cells61] at hlen
  obtain ⟨c0, c1, c2, rfl⟩ : ∃ c0 c1 c2, cs = [c0, c1, c2] := by
    match cs, hlen with
    | [c0, c1, c2], _ => exact ⟨c0, c1, c2, rfl⟩
  obtain ⟨y0, y1, y2, rfl⟩ : ∃ y0 y1 y2, ys = [y0, y1, y2] := by
    match ys, hyl with
    | [y0, y1, y2], _ => exact ⟨y0, y1, y2, rfl⟩
  have f0 := hf 0 { name := "Kind", type := 59, offset := 0, embedded := false, tag := "", pkgPath := "", byteOffset := 0 } rfl
  have f1 := hf 1 { name := "From", type := 3, offset := 1, embedded := false, tag := "", pkgPath := "", byteOffset := 8 } rfl
  have f2 := hf 2 { name := "To", type := 3, offset := 2, embedded := false, tag := "", pkgPath := "", byteOffset := 16 } rfl
  simp only [cells3, cells59, List.drop_zero, List.drop_succ_cons, List.take_succ_cons, List.take_zero, List.getElem?_cons_zero, List.getElem?_cons_succ] at f0 f1 f2
  have hq : ∀ (j : Nat) (t : TypeId) (d : DataW H), [59, 3, 3][j]? = some t → [y0.1, y1.1, y2.1][j]? = some d → ∀ n ∈ d.weights Try.prog t, n ≤ reachBytes := by
    intro j t d h1 h2 q hq
    refine hw q ?_
    simp only [DataW.weights, Try.underlying61]
    exact DataW.weights_mem_each (j := j) h1 h2 q hq
  obtain ⟨a0, e0, w0⟩ := O.opens_int Try.underlying59 f0 (hq 0 _ _ rfl rfl)
  obtain rfl : c0 = .int .u8 a0 := (List.cons.inj e0).1
  obtain ⟨a1, e1, w1⟩ := O.opens_int Try.underlying3 f1 (hq 1 _ _ rfl rfl)
  obtain rfl : c1 = .int .i64 a1 := (List.cons.inj e1).1
  obtain ⟨a2, e2, w2⟩ := O.opens_int Try.underlying3 f2 (hq 2 _ _ rfl rfl)
  obtain rfl : c2 = .int .i64 a2 := (List.cons.inj e2).1
  exact ⟨⟨a0, a1, a2⟩, k61_mk w _, w0, w1, w2⟩
def B47 (x : S47) : Prop := (Lit.int .u8 x.f0).wf = true ∧ (Lit.int .i64 x.f1).wf = true ∧ (Lit.int .i64 x.f2).wf = true ∧ (Lit.int .i64 x.f3).wf = true
theorem cells47 : Try.prog.cellsOf 47 = 4 := by kernel_rfl
theorem opens47 : O.Opens Try.prog 47 k47 B47 := by
  intro H enc w base spare held fuel cs x h hw
  obtain ⟨ys, n, rfl, rfl, hlen, hyl, hf⟩ := DataW.trod_struct Try.underlying47 h
  rw [cells47] at hlen
  obtain ⟨c0, c1, c2, c3, rfl⟩ : ∃ c0 c1 c2 c3, cs = [c0, c1, c2, c3] := by
    match cs, hlen with
    | [c0, c1, c2, c3], _ => exact ⟨c0, c1, c2, c3, rfl⟩
  obtain ⟨y0, y1, y2, y3, rfl⟩ : ∃ y0 y1 y2 y3, ys = [y0, y1, y2, y3] := by
    match ys, hyl with
    | [y0, y1, y2, y3], _ => exact ⟨y0, y1, y2, y3, rfl⟩
  have f0 := hf 0 { name := "Kind", type := 45, offset := 0, embedded := false, tag := "", pkgPath := "", byteOffset := 0 } rfl
  have f1 := hf 1 { name := "First", type := 3, offset := 1, embedded := false, tag := "", pkgPath := "", byteOffset := 8 } rfl
  have f2 := hf 2 { name := "End", type := 3, offset := 2, embedded := false, tag := "", pkgPath := "", byteOffset := 16 } rfl
  have f3 := hf 3 { name := "Size", type := 3, offset := 3, embedded := false, tag := "", pkgPath := "", byteOffset := 24 } rfl
  simp only [cells3, cells45, List.drop_zero, List.drop_succ_cons, List.take_succ_cons, List.take_zero, List.getElem?_cons_zero, List.getElem?_cons_succ] at f0 f1 f2 f3
  have hq : ∀ (j : Nat) (t : TypeId) (d : DataW H), [45, 3, 3, 3][j]? = some t → [y0.1, y1.1, y2.1, y3.1][j]? = some d → ∀ n ∈ d.weights Try.prog t, n ≤ reachBytes := by
    intro j t d h1 h2 q hq
    refine hw q ?_
    simp only [DataW.weights, Try.underlying47]
    exact DataW.weights_mem_each (j := j) h1 h2 q hq
  obtain ⟨a0, e0, w0⟩ := O.opens_int Try.underlying45 f0 (hq 0 _ _ rfl rfl)
  obtain rfl : c0 = .int .u8 a0 := (List.cons.inj e0).1
  obtain ⟨a1, e1, w1⟩ := O.opens_int Try.underlying3 f1 (hq 1 _ _ rfl rfl)
  obtain rfl : c1 = .int .i64 a1 := (List.cons.inj e1).1
  obtain ⟨a2, e2, w2⟩ := O.opens_int Try.underlying3 f2 (hq 2 _ _ rfl rfl)
  obtain rfl : c2 = .int .i64 a2 := (List.cons.inj e2).1
  obtain ⟨a3, e3, w3⟩ := O.opens_int Try.underlying3 f3 (hq 3 _ _ rfl rfl)
  obtain rfl : c3 = .int .i64 a3 := (List.cons.inj e3).1
  exact ⟨⟨a0, a1, a2, a3⟩, k47_mk w _, w0, w1, w2, w3⟩

theorem slice_cells {P : Program} {t e : TypeId} (hu : P.underlying t = some (.slice e)) {H : Type} {enc : TypeId × Value → H} {w : World} {base : Nat} {spare : Nat → Bool} {held : Bool} {fuel : Nat} {cs : List Value} {x : DataW H × List MemPlace}
    (h : DataW.trod enc P w base spare held fuel t cs = some x) : ∃ A n c, cs = [.slice A n c] := by
  rcases open_slice hu h with ⟨hcs, _⟩ | ⟨a, len, cap, m, fu, D, Pl, hcs, _⟩
  · exact ⟨_, _, _, hcs⟩
  · exact ⟨_, _, _, hcs⟩

/-- A Forest that came in. -/
theorem open27 {H : Type} {enc : TypeId × Value → H} {W : World} {base b0 : Nat} {r : Reach} {spare : Nat → Bool} {held : Bool} {v : Value} {d : DataW H} {p : List MemPlace} (hv : Value.okWide Try.prog W r b0 27 v) (h : DataW.Trod enc Try.prog W base spare held 27 v d p) (hw : ∀ n ∈ d.weights Try.prog 27, n ≤ reachBytes) :
    ∃ (t : ByteArray) (A1 : Option Addr) (c1 : Nat) (ps : List S61) (A2 : Option Addr) (c2 : Nat) (ns : List S47), v = .agg #[.string t, .slice A1 ps.length c1, .slice A2 ns.length c2] ∧ t.size ≤ 140737488351232 ∧
      Kd.C k61 W A1 ps.length ps ∧ ps.length ≤ c1 ∧ (A1 = none → c1 = 0) ∧ (∀ x ∈ ps, B61 x) ∧ ps.length * 24 ≤ 140737488351232 ∧ Kd.C k47 W A2 ns.length ns ∧ ns.length ≤ c2 ∧ (A2 = none → c2 = 0) ∧ (∀ x ∈ ns, B47 x) ∧ ns.length * 32 ≤ 140737488351232 := by
  obtain ⟨cs, rfl, hsz⟩ := okWide_struct Try.underlying27 hv
  rw [cells27] at hsz
  obtain ⟨l⟩ := cs
  obtain ⟨c0, c1, c2, rfl⟩ : ∃ a b c, l = [a, b, c] := by
    match l, hsz with
    | [a, b, c], _ => exact ⟨a, b, c, rfl⟩
  obtain ⟨fuel, hf⟩ := h
  obtain ⟨ys, n, _, hd, _, hyl, hg⟩ := DataW.trod_struct Try.underlying27 hf
  obtain ⟨y0, y1, y2, rfl⟩ : ∃ a b c, ys = [a, b, c] := by
    match ys, hyl with
    | [a, b, c], _ => exact ⟨a, b, c, rfl⟩
  obtain ⟨rfl, rfl⟩ := Prod.mk.inj hd
  have f0 := hg 0 { name := "Text", type := 9, offset := 0, embedded := false, tag := "", pkgPath := "", byteOffset := 0 } rfl
  have f1 := hg 1 { name := "Pieces", type := 22, offset := 1, embedded := false, tag := "", pkgPath := "", byteOffset := 16 } rfl
  have f2 := hg 2 { name := "Tree", type := 25, offset := 2, embedded := false, tag := "", pkgPath := "", byteOffset := 40 } rfl
  simp only [Value.cells, cells9, cells22, cells25, List.drop_zero, List.drop_succ_cons, List.take_succ_cons, List.take_zero, List.getElem?_cons_zero, List.getElem?_cons_succ] at f0 f1 f2
  have hq : ∀ (j : Nat) (t : TypeId) (d : DataW H), [9, 22, 25][j]? = some t → [y0.1, y1.1, y2.1][j]? = some d → ∀ n ∈ d.weights Try.prog t, n ≤ reachBytes := by
    intro j t d h1 h2 q hq
    refine hw q ?_
    simp only [DataW.weights, Try.underlying27]
    exact DataW.weights_mem_each (j := j) h1 h2 q hq
  obtain ⟨t, e0, ht⟩ := O.opens_string Try.underlying9 f0 (hq 0 _ _ rfl rfl)
  obtain rfl : c0 = .string t := (List.cons.inj e0).1
  obtain ⟨A1, n1, k1, e1⟩ := slice_cells Try.underlying22 f1
  obtain rfl : c1 = .slice A1 n1 k1 := (List.cons.inj e1).1
  obtain ⟨ps, rfl, p1, p2, p3, p4, p5⟩ := O.open_row Try.underlying22 opens61 cells61 f1 (hq 1 _ _ rfl rfl)
  obtain ⟨zs, n', _, hz, _, hzl, hg2⟩ := DataW.trod_struct Try.underlying25 f2
  obtain ⟨z0, rfl⟩ : ∃ a, zs = [a] := by
    match zs, hzl with
    | [a], _ => exact ⟨a, rfl⟩
  have f3 := hg2 0 { name := "Nodes", type := 23, offset := 0, embedded := false, tag := "", pkgPath := "", byteOffset := 0 } rfl
  simp only [cells23, List.drop_zero, List.take_succ_cons, List.take_zero, List.getElem?_cons_zero] at f3
  obtain ⟨A2, n2, k2, e2⟩ := slice_cells Try.underlying23 f3
  obtain rfl : c2 = .slice A2 n2 k2 := (List.cons.inj e2).1
  have hq3 : ∀ n ∈ z0.1.weights Try.prog 23, n ≤ reachBytes := by
    intro q hq1
    refine hq 2 _ _ rfl rfl q ?_
    rw [hz]
    simp only [List.map_cons, List.map_nil, DataW.weights, Try.underlying25]
    exact DataW.weights_mem_each (j := 0) (ts := [23]) (ds := [z0.1]) rfl rfl q hq1
  obtain ⟨ns, rfl, q1, q2, q3, q4, q5⟩ := O.open_row Try.underlying23 opens47 cells47 f3 hq3
  rw [bytes61] at p5
  rw [bytes47] at q5
  exact ⟨t, A1, k1, ps, A2, k2, ns, rfl, ht, p1, p2, p3, p4, p5, q1, q2, q3, q4, q5⟩
end Go.Proofs.Ytodldpdnhcafpaa.H

namespace Go.Proofs.Ytodldpdnhcafpaa.L
open Go.RowKit Go.Proofs.YtodldpdnhcafpaaW.PrintWords Go.Proofs.YtodldpdnhcafpaaW.PrintLast Go.Proofs.YtodldpdnhcafpaaW.PrintMore
open Go.Proofs.Ytodldpdnhcafpaa.F Go.Proofs.Ytodldpdnhcafpaa.H
set_option linter.unusedVariables false
theorem tokens_walk (t : ByteArray) (A1 : Option Addr) (c1 : Nat) (ps : List S61) (A2 : Option Addr) (c2 : Nat) (ns : List S47) (w : World)
    (hs : t.size ≤ 140737488351232) (hr1 : Kd.C k61 w A1 ps.length ps) (hc1 : ps.length ≤ c1) (hn1 : A1 = none → c1 = 0) (hB1 : ∀ x ∈ ps, B61 x) (hb1 : ps.length * 24 ≤ 140737488351232)
    (hr2 : Kd.C k47 w A2 ns.length ns) (hc2 : ns.length ≤ c2) (hn2 : A2 = none → c2 = 0) (hB2 : ∀ x ∈ ns, B47 x) (hb2 : ns.length * 32 ≤ 140737488351232) :
    Calls Try.prog 15 #[.agg #[.string t, .slice A1 ps.length c1, .slice A2 ns.length c2]] w fun e w' => e = .returned (.bool true) ∧ Below w.heap.size w w' := by
  have hu8 : ∀ x ∈ ns, 0 ≤ x.f0 ∧ x.f0 ≤ 255 := fun x hx => by
    have h := (hB2 x hx).1
    simp [Lit.wf, IntKind.min, IntKind.max, IntKind.bits, IntKind.signed] at h
    omega
  obtain ⟨k, hk⟩ := (Q.TreeTokens_is t ps ns (by omega) (by omega) hu8).rounds
  exact monikerlaw4_TreeTokens.calls k t A1 c1 ps A2 c2 ns true w hr1 hc1 hr2 hc2 hk
end Go.Proofs.Ytodldpdnhcafpaa.L


namespace Go.Proofs.Ytodldpdnhcafpaa.treeTokens
open Go.ChangeShapes Go.WideShapes Go.ChangeAt Go.RowKit Go.Proofs.Ytodldpdnhcafpaa
open Go.ChangeMaps (open_string shut_string)
set_option linter.unusedVariables false
theorem own : ownKnob Try.prog.godebug = none := by kernel_rfl
theorem laidOut : laidOutB Try.prog = true := by kernel_rfl
set_option maxRecDepth 100000 in
theorem lifted (os : Os) (started : os.Started) (H : Type) (enc : TypeId × Value → H) :
    ReturnsInHanded {} Try.checked os 15 .any (Rows.treeTokensSpec.pre6 enc Try.prog Try.f15 Rows.treeTokensRow.domain false) (Rows.treeTokensSpec.post enc Try.prog Try.f15 false true false false) := by
  refine returnsInHanded_of_change_sized (C := Try.checked) own started (by kernel_rfl) Try.func15
    (ChangeSpec.witness6 (enc := enc) (C := Try.checked) false ⟨#[], #[.agg #[.string ByteArray.empty, .slice none 0 0, .slice none 0 0]], []⟩ 8 (by kernel_rfl) (by kernel_rfl) (by kernel_rfl) (by kernel_rfl)) ?_
  intro W base args ds gs before hval0 hW hcnd hsz0 _
  have hsz : (DataW.weightsEach Try.prog (Try.f15.params.toList ++ Rows.treeTokensSpec.plain.varTypes Try.prog) (ds ++ gs)).all (· ≤ reachBytes) = true := hsz0
  have hval : ∀ (j : Nat) t v, Try.f15.params[j]? = some t → args[j]? = some v → Value.okWide Try.prog W .any base t v := hval0
  have hW' := hW
  obtain ⟨p, q, hA0, hV, rfl, hfz, hnd⟩ := hW
  have hA : DataW.TrodAll enc Try.prog W 0 (fun _ => true) true Try.f15.params.toList args.toList ds p := hA0
  rw [Try.params15] at hA hval hsz
  obtain ⟨v0, vs0, d0, ds0, p0, q0, hargs, rfl, rfl, h0, r0⟩ := trodAll_cons hA
  obtain ⟨rfl, rfl, rfl⟩ := trodAll_nil r0
  obtain rfl : args = #[v0] := by cases args; simp_all
  obtain ⟨rfl, rfl⟩ := trodVars_none hV
  have k0 := h0
  have lt0 : ∀ x ∈ p0, x.block < W.heap.size := by obtain ⟨m, hm⟩ := k0; exact DataW.trod_lt m _ _ _ hm
  have hq0 : ∀ n ∈ DataW.weights Try.prog 27 d0, n ≤ reachBytes := fun n hn => of_decide_eq_true (List.all_eq_true.1 hsz n (DataW.weights_mem_each (j := 0) rfl rfl n hn))
  obtain ⟨t0, A0, c0, l0, B0, e0, m0, rfl, hf0_0, hf0_1, hf0_2, hf0_3, hf0_4, hf0_5, hf0_6, hf0_7, hf0_8, hf0_9, hf0_10⟩ := Go.Proofs.Ytodldpdnhcafpaa.H.open27 (hval 0 27 v0 rfl rfl) h0 hq0
  clear hA0 hval0 hsz0 hsz
  refine (L.tokens_walk t0 A0 c0 l0 B0 e0 m0 W hf0_0 hf0_1 hf0_2 hf0_3 hf0_4 hf0_5 hf0_6 hf0_7 hf0_8 hf0_9 hf0_10).mono fun e W' ⟨he, bel⟩ => ?_
  subst he
  exact ⟨_, rfl, _, _, _, [], _, [], hW', trodAll_mk1 (shut_bool Try.underlying4 _), (trodAll_cons_mk (Below.trod laidOut (by kernel_rfl) (of_decide_eq_true (by kernel_rfl)) k0 bel lt0) trodAll_mk0), rfl, bel.frame _, fun h => by cases h⟩
theorem over : Rows.treeTokensRow.holds Try.pinned (OpenSpec.ofChange Rows.treeTokensSpec) :=
  OpenClaim.holds_of_wide 15 Try.f15 rfl rfl rfl rfl rfl rfl rfl ⟨rfl, rfl, rfl, rfl, rfl⟩ rfl rfl rfl rfl rfl (by kernel_rfl) Try.func15 (by kernel_rfl)
    (of_decide_eq_true (by kernel_rfl)) (by unfold Func.isWrapper; first | (rw [if_pos (by decide +kernel)]; kernel_rfl) | (rw [if_neg (by decide +kernel)]; exact ⟨rfl, rfl⟩))
    (fun os started H enc _ => lifted os started H enc)
theorem proved : Rows.TreeTokensSaid := over
#print axioms proved
end Go.Proofs.Ytodldpdnhcafpaa.treeTokens
namespace Go.Proofs.Ytodldpdnhcafpaa
/-- The row, under a short name, for the claim. -/
theorem treeTokens_holds : Rows.TreeTokensSaid := treeTokens.proved
end Go.Proofs.Ytodldpdnhcafpaa
