/- Texts of the proof of one law (Back), part 2: functions printed as Lean functions with their walks, and what is proved of them. Conditions: those of each theorem. -/
import Derived.Test.YtaihajmdngoeiaaZBack1
import Derived.Lib.Strings
-- A text of this session's own program (wip/myprint.sh over a changed print tool): functions and their walks
namespace Go.Proofs.Ytaihajmdngoeiaa.F
open Go.RowKit Go.Proofs.YtaihajmdngoeiaaW.PrintWords Go.Proofs.YtaihajmdngoeiaaW.PrintLast Go.Proofs.YtaihajmdngoeiaaW.PrintMore
attribute [local go_sem] max2_int min2_int max_two min_two max_three min_three max_four min_four   -- for this text's walks alone
set_option linter.unusedVariables false
set_option linter.unusedSimpArgs false

/-! ### edits_Normal: function 26 -/
mutual
def edits_Normal.l0 : Nat → ByteArray → List (S42) → List (S42) → Int → Int → Option ((List (S42)) × Int)
  | 0, _, _, _, _, _ => none
  | k + 1, x0, x7, x19, x20, x21 => if x21 < x20 then (if 0 ≤ x21 then (if x21 < (x19.length : Int) then (if 0 ≤ ((rd_T42 x19 x21).f0) then (if ((rd_T42 x19 x21).f0) ≤ ((rd_T42 x19 x21).f1) then (if ((rd_T42 x19 x21).f1) ≤ (x0.size : Int) then (edits_Normal.l1 k x0 x7 (x0.extract (((rd_T42 x19 x21).f0) : Int).toNat (((rd_T42 x19 x21).f1) : Int).toNat) 0 x19 x20 x21 ((rd_T42 x19 x21).f0) ((rd_T42 x19 x21).f1) ((rd_T42 x19 x21).f2)) else (none)) else (none)) else (none)) else (none)) else (none)) else (some (x7, 0))
def edits_Normal.l1 : Nat → ByteArray → List (S42) → ByteArray → Int → List (S42) → Int → Int → Int → Int → ByteArray → Option ((List (S42)) × Int)
  | 0, _, _, _, _, _, _, _, _, _, _ => none
  | k + 1, x0, x7, x10, x11, x19, x20, x21, x317000, x317001, x317002 => if x11 < (x10.size : Int) then (if x11 < (x317002.size : Int) then (if 0 ≤ x11 then (edits_Normal.j2 k x0 x7 x10 x11 x19 x20 x21 ((bt x10 x11) == (bt x317002 x11)) x317000 x317001 x317002) else (none)) else (edits_Normal.j2 k x0 x7 x10 x11 x19 x20 x21 false x317000 x317001 x317002)) else (edits_Normal.j2 k x0 x7 x10 x11 x19 x20 x21 false x317000 x317001 x317002)
def edits_Normal.j2 : Nat → ByteArray → List (S42) → ByteArray → Int → List (S42) → Int → Int → Bool → Int → Int → ByteArray → Option ((List (S42)) × Int)
  | 0, _, _, _, _, _, _, _, _, _, _, _ => none
  | k + 1, x0, x7, x10, x11, x19, x20, x21, x51, x317000, x317001, x317002 => if x51 = true then (edits_Normal.l1 k x0 x7 x10 (wrap64 (x11 + 1)) x19 x20 x21 x317000 x317001 x317002) else (if 0 ≤ x11 then (if x11 ≤ (x10.size : Int) then (if x11 ≤ (x317002.size : Int) then (edits_Normal.l2 k x0 x7 (x10.extract (x11 : Int).toNat x10.size) 0 x19 x20 x21 (wrap64 (x317000 + x11)) x317001 (x317002.extract (x11 : Int).toNat x317002.size)) else (none)) else (none)) else (none))
def edits_Normal.l2 : Nat → ByteArray → List (S42) → ByteArray → Int → List (S42) → Int → Int → Int → Int → ByteArray → Option ((List (S42)) × Int)
  | 0, _, _, _, _, _, _, _, _, _, _ => none
  | k + 1, x0, x7, x10, x11, x19, x20, x21, x317000, x317001, x317002 => if x11 < (x10.size : Int) then (if x11 < (x317002.size : Int) then (if 0 ≤ (wrap64 ((wrap64 ((x10.size : Int) - 1)) - x11)) then (if (wrap64 ((wrap64 ((x10.size : Int) - 1)) - x11)) < (x10.size : Int) then (if 0 ≤ (wrap64 ((wrap64 ((x317002.size : Int) - 1)) - x11)) then (if (wrap64 ((wrap64 ((x317002.size : Int) - 1)) - x11)) < (x317002.size : Int) then (edits_Normal.j4 k x0 x7 x10 x11 x19 x20 x21 ((bt x10 (wrap64 ((wrap64 ((x10.size : Int) - 1)) - x11))) == (bt x317002 (wrap64 ((wrap64 ((x317002.size : Int) - 1)) - x11)))) x317000 x317001 x317002) else (none)) else (none)) else (none)) else (none)) else (edits_Normal.j4 k x0 x7 x10 x11 x19 x20 x21 false x317000 x317001 x317002)) else (edits_Normal.j4 k x0 x7 x10 x11 x19 x20 x21 false x317000 x317001 x317002)
def edits_Normal.j4 : Nat → ByteArray → List (S42) → ByteArray → Int → List (S42) → Int → Int → Bool → Int → Int → ByteArray → Option ((List (S42)) × Int)
  | 0, _, _, _, _, _, _, _, _, _, _, _ => none
  | k + 1, x0, x7, x10, x11, x19, x20, x21, x96, x317000, x317001, x317002 => if x96 = true then (edits_Normal.l2 k x0 x7 x10 (wrap64 (x11 + 1)) x19 x20 x21 x317000 x317001 x317002) else (if 0 ≤ (wrap64 ((x317002.size : Int) - x11)) then (if (wrap64 ((x317002.size : Int) - x11)) ≤ (x317002.size : Int) then (if x317000 < (wrap64 (x317001 - x11)) then (if x7.length < 4398046511104 then (edits_Normal.l0 k x0 (x7 ++ [(⟨x317000, wrap64 (x317001 - x11), x317002.extract 0 ((wrap64 ((x317002.size : Int) - x11)) : Int).toNat⟩ : S42)]) x19 x20 (wrap64 (x21 + 1))) else (none)) else (if (x317002.extract 0 ((wrap64 ((x317002.size : Int) - x11)) : Int).toNat).toList = ([] : List UInt8) then (edits_Normal.l0 k x0 x7 x19 x20 (wrap64 (x21 + 1))) else (if x7.length < 4398046511104 then (edits_Normal.l0 k x0 (x7 ++ [(⟨x317000, wrap64 (x317001 - x11), x317002.extract 0 ((wrap64 ((x317002.size : Int) - x11)) : Int).toNat⟩ : S42)]) x19 x20 (wrap64 (x21 + 1))) else (none)))) else (none)) else (none))
end
def edits_Normal.f (k : Nat) (a0 : ByteArray) (l1 : List (S42)) : Option ((List (S42)) × Int) := (edits_valid.f k (a0.size : Int) l1).bind fun t314 => (if t314 = 0 then (edits_Normal.l0 k a0 ([] : List (S42)) l1 (l1.length : Int) 0) else (some (([] : List (S42)), t314)))
def edits_Normal.T10 : Bool × List (List Nat × List Nat) := (true, [([], []), ([], []), ([1], [1]), ([0, 2], [0, 2]), ([3], [3]), ([4], [4]), ([4], [4]), ([6, 4], [4, 6]), ([7, 4], [4, 7]), ([5, 8, 4], [4, 5, 8]), ([4, 9], [4, 9]), ([10, 4], [10]), ([11], [11]), ([11], [11]), ([12, 13, 11], [11, 12, 13]), ([11], [11]), ([15, 11], [11, 15]), ([11], [11]), ([16, 17, 11], [11, 16, 17]), ([14, 18, 11], [11, 14, 18]), ([11, 19], [11, 19])])
def edits_Normal.B10 : List Nat := [0, 0, 2, 7, 15, 31, 31, 95, 223, 511, 1023, 2047, 4095, 4095, 16383, 4095, 36863, 4095, 233471, 524287, 1048575]
theorem edits_Normal.tab10 : rtab .any (opsOf Try.f26 10) = edits_Normal.T10 := by kernel_rfl
theorem edits_Normal.bits10 : waitsOk edits_Normal.T10.2 edits_Normal.B10 = true := by kernel_rfl
def edits_Normal.T12 : Bool × List (List Nat × List Nat) := (true, [([], []), ([], []), ([0, 1], [0, 1]), ([], []), ([3], [3]), ([], []), ([4, 5], [4, 5]), ([2, 0, 1, 2], [0, 2]), ([0, 1, 2, 3, 4, 5, 6, 7], []), ([8, 6, 7, 0, 1, 2, 3, 4, 5, 6, 7], [6, 8])])
def edits_Normal.B12 : List Nat := [0, 0, 3, 0, 8, 0, 56, 7, 255, 511]
theorem edits_Normal.tab12 : rtab .any (opsOf Try.f26 12) = edits_Normal.T12 := by kernel_rfl
theorem edits_Normal.bits12 : waitsOk edits_Normal.T12.2 edits_Normal.B12 = true := by kernel_rfl
def edits_Normal.T15 : Bool × List (List Nat × List Nat) := (true, [([], []), ([], []), ([1], [1]), ([0, 2], [0, 2]), ([3], [3]), ([4], [4]), ([4], [4]), ([6, 4], [4, 6]), ([7, 4], [4, 7]), ([5, 8, 4], [4, 5, 8]), ([4, 9], [4, 9]), ([10, 4], [10]), ([11], [11]), ([11], [11]), ([13, 11], [11, 13]), ([14, 11], [11, 14]), ([11], [11]), ([15, 16, 11], [11, 15, 16]), ([12, 17, 11], [11, 12, 17]), ([11], [11]), ([19, 11], [11, 19]), ([11], [11]), ([21, 11], [11, 21]), ([22, 11], [11, 22]), ([23, 11], [11, 23]), ([11], [11]), ([24, 25, 11], [11, 24, 25]), ([20, 26, 11], [11, 20, 26]), ([18, 27, 11], [11, 18, 27]), ([11, 28], [11, 28])])
def edits_Normal.B15 : List Nat := [0, 0, 2, 7, 15, 31, 31, 95, 223, 511, 1023, 2047, 4095, 4095, 12287, 28671, 4095, 126975, 262143, 4095, 528383, 4095, 2101247, 6295551, 14684159, 4095, 65015807, 133697535, 268435455, 536870911]
theorem edits_Normal.tab15 : rtab .any (opsOf Try.f26 15) = edits_Normal.T15 := by kernel_rfl
theorem edits_Normal.bits15 : waitsOk edits_Normal.T15.2 edits_Normal.B15 = true := by kernel_rfl
set_option maxHeartbeats 8000000 in
set_option maxRecDepth 100000 in
theorem edits_Normal.calls (k : Nat) (a0 : ByteArray) (A1 : Option Addr) (c1 : Nat) (l1 : List (S42)) (r1 : List (S42)) (r2 : Int) (w : World) (hr1 : Kd.C k42 w A1 l1.length l1) (hc1 : l1.length ≤ c1) (h : edits_Normal.f k a0 l1 = some (r1, r2)) :
    Calls Try.prog 26 #[.string a0, .slice A1 l1.length c1] w fun e w' => ∃ v0_ : Value, e = .returned (.tuple #[v0_, .int .i64 r2]) ∧ Kd.R k42 42 w' w.heap.size (fun _ => True) v0_ r1 ∧ Below w.heap.size w w' := by
  have hu42 := Try.underlying42
  have HR1 := Aside0.mk hr1
  have HC1 := Aside0.mk hc1
  clear hr1 hc1
  have HB := Aside0.mk (Below.refl w.heap.size w)
  have H : ((edits_valid.f k (a0.size : Int) l1).bind fun t314 => (if t314 = 0 then (edits_Normal.l0 k a0 ([] : List (S42)) l1 (l1.length : Int) 0) else (some (([] : List (S42)), t314)))) = some (r1, r2) := h
  clear h
  replace H := Option.bind_eq_some_iff.mp H
  obtain ⟨t314, A30, H⟩ := H
  replace H : (if t314 = 0 then (edits_Normal.l0 k a0 ([] : List (S42)) l1 (l1.length : Int) 0) else (some (([] : List (S42)), t314))) = some (r1, r2) := H
  have A3 := Aside0.mk A30
  clear A30
  by_cases c4 : t314 = 0
  · rw [if_pos c4] at H
    have c4b0 : (t314 == 0) = true := beq_iff_eq.mpr c4
    have c4b1 : (t314 != 0) = false := bne_eq_false_iff_eq.mpr c4
    clear c4
    have H' := Aside0.mk H
    clear H
    go_enter Try.func26, Try.ntmps26
    go_wp2_with (first | ((with_reducible refine gate_callee (f := 32) rfl ?_); refine goesL_ (some 15) rfl rfl Try.func32 (by kernel_rfl) rfl #[.int .i64 (a0.size : Int), .slice A1 l1.length c1] rfl (by (try simp only [List.map_toArray, List.map_cons, List.map_nil]); first | done | rfl | (simp only [List.length_drop, List.length_take]; rfl)) ?_; (with_reducible refine (edits_valid.calls k (a0.size : Int) _ _ l1 t314 _ ?side1 ?side2 A3.out).mono ?_); (case side1 => repeat (first | exact HR1.out | (with_reducible refine Kd.C_alloc ?_ _) | (with_reducible refine Kd.C_drewN ?_ _) | (with_reducible refine Kd.C_drew ?_))); (case side2 => exact HC1.out); rintro e w5 ⟨rfl, hb⟩; refine ⟨_, rfl, ?_⟩; have n0_ := Aside0.mk (below_step (by repeat (first | (with_reducible first | exact HB.out | apply below_alloc | apply pw_below_drewN | apply below_drew1) | exact HB.out)) hb); clear HB; have HB := n0_; clear n0_; (try clear hb); (try clear hb2); (try clear hk); (try clear hi)))
    go_loopg [7, 21] k (fun kq v7 v21 w' => ∃ (x7_1 : List (S42)) (x21_1 : Int), v21 = .int .i64 x21_1 ∧ Aside0 (edits_Normal.l0 kq a0 x7_1 l1 (l1.length : Int) x21_1 = some (r1, r2)) ∧ Aside0 (kq ≤ k) ∧ Aside0 (Kd.R k42 42 w' w.heap.size (fun _ => True) v7 x7_1) ∧ Aside0 (Below w.heap.size w w'))
    case atStart => exact ⟨(([] : List (S42))), (0), (by first | rfl | (simp; done) | (simp [*]; done)), H', ⟨Nat.le_refl _⟩, ⟨by first | exact Kd.R_nil _ _ _ _ _ | exact Kd.N_nil _ _ _ _ _ | exact Kd.V_nil _ _ _ _ _ | exact Kd.Q_nil _ _ _ _ _ | exact Kd.S_nil _ _ _ _ _⟩, ⟨by repeat (first | (with_reducible first | exact HB.out | apply below_alloc | apply pw_below_drewN | apply below_drew1) | exact HB.out)⟩⟩
    case round =>
      clear H'
      try clear c1
      try clear c2
      try clear p2
      try clear c3
      try clear c4
      try clear c4b0
      try clear c4b1
      obtain ⟨x7_1, x21_1, rfl, HA, HK1, HO_7, HB⟩ := hrel
      cases gk with
      | zero => exact absurd HA.out (by simp [edits_Normal.l0])
      | succ k1 =>
        have H := HA.out
        clear HA
        simp only [edits_Normal.l0] at H
        try simp only [ByteArray.size_extract, Nat.min_self] at H
        by_cases c6 : x21_1 < (l1.length : Int)
        · rw [if_pos c6] at H
          have c6b0 : decide (x21_1 < (l1.length : Int)) = true := decide_eq_true c6
          clear c6
          by_cases c7 : 0 ≤ x21_1
          · rw [if_pos c7] at H
            have c7b0 : decide (0 ≤ x21_1) = true := decide_eq_true c7
            clear c7
            by_cases c8 : x21_1 < (l1.length : Int)
            · rw [if_pos c8] at H
              have c8b0 : decide (x21_1 < (l1.length : Int)) = true := decide_eq_true c8
              clear c8
              by_cases c9 : 0 ≤ ((rd_T42 l1 x21_1).f0)
              · rw [if_pos c9] at H
                have c9b0 := eq_true c9
                have c9b1 : decide (0 ≤ ((rd_T42 l1 x21_1).f0)) = true := decide_eq_true c9
                clear c9
                by_cases c10 : ((rd_T42 l1 x21_1).f0) ≤ ((rd_T42 l1 x21_1).f1)
                · rw [if_pos c10] at H
                  have c10b0 := eq_true c10
                  have c10b1 : decide (((rd_T42 l1 x21_1).f0) ≤ ((rd_T42 l1 x21_1).f1)) = true := decide_eq_true c10
                  clear c10
                  by_cases c11 : ((rd_T42 l1 x21_1).f1) ≤ (a0.size : Int)
                  · rw [if_pos c11] at H
                    have c11b0 := eq_true c11
                    have c11b1 : decide (((rd_T42 l1 x21_1).f1) ≤ (a0.size : Int)) = true := decide_eq_true c11
                    clear c11
                    have H' := Aside0.mk H
                    clear H
                    have p315 : 0 ≤ (x21_1 : Int) := of_decide_eq_true (by first | (with_reducible assumption) | assumption)
                    have q315 : x21_1 < (l1.length : Int) := of_decide_eq_true (by first | (with_reducible assumption) | assumption)
                    obtain ⟨ad315, e315, hx315_0, hx315_1, hx315_2⟩ := at_T42 HR1.out x21_1 p315 q315
                    cases e315
                    replace hx315_0 := (HB.out.cell (World.block_lt_of_cell? w _ hx315_0)).trans hx315_0
                    replace hx315_1 := (HB.out.cell (World.block_lt_of_cell? w _ hx315_1)).trans hx315_1
                    replace hx315_2 := (HB.out.cell (World.block_lt_of_cell? w _ hx315_2)).trans hx315_2
                    replace p315 := eq_true p315
                    replace q315 := eq_true q315
                    go_wp2_with (first | ((with_reducible refine gate_dst (N := 9) rfl ?_); (try (refine gate_guard (by rfl) ?_; dsimp only)); refine box_event ?hg (N := 9) ?hd (cs := #[.int .i64 0, .int .i64 0, .string (⟨#[]⟩ : ByteArray)]) (t := 42) ?hr ?_; (case hd => rfl); (case hg => rfl); (case hr => first | (go_simp; done) | (go_simp; rfl)); intro gb316 hg w12 hbox hb; have n0_ := Aside0.mk (Kd.R_below (Kd.R_elderB (by (with_reducible repeat (first | apply Kd.R_alloc | apply Kd.R_drewN | apply Kd.R_drew)); exact HO_7.out) gb316 (Nat.le_of_eq hg.symm)) hb); have n1_ := Aside0.mk (below_step (by repeat (first | (with_reducible first | exact HB.out | apply below_alloc | apply pw_below_drewN | apply below_drew1) | exact HB.out)) hb); have n2_ := Aside0.mk (hbox); have n3_ := Aside0.mk ((by rw [hg]; exact (below_size (by repeat (first | (with_reducible first | exact HB.out | apply below_alloc | apply pw_below_drewN | apply below_drew1) | exact HB.out))) : w.heap.size ≤ gb316)); have n4_ := Aside0.mk ((by rw [hg]; exact (below_size (by repeat (first | (with_reducible first | exact HB.out | apply below_alloc | apply pw_below_drewN | apply below_drew1) | exact HB.out))) : w.heap.size ≤ gb316)); clear HO_7; clear HB; have HO_7 := n0_; have HB := n1_; have BK316 := n2_; have GW316 := n3_; have GE316 := n4_; clear n0_ n1_ n2_ n3_ n4_; clear hb hbox hg; have hcz13_0 : w12.cell? ⟨gb316, 0, none⟩ = some (.int .i64 0) := (blk_cell BK316.out 0).trans rfl; have hcz13_1 : w12.cell? ⟨gb316, 1, none⟩ = some (.int .i64 0) := (blk_cell BK316.out 1).trans rfl; have hcz13_2 : w12.cell? ⟨gb316, 2, none⟩ = some (.string (⟨#[]⟩ : ByteArray)) := (blk_cell BK316.out 2).trans rfl; have hfz13_0 := blk_frozen BK316.out 0; have hfz13_1 := blk_frozen BK316.out 1; have hfz13_2 := blk_frozen BK316.out 2))
                    go_loopg [11] k1 (fun kq v11 w' => ∃ (x11_2 : Int), v11 = .int .i64 x11_2 ∧ Aside0 (edits_Normal.l1 kq a0 x7_1 (a0.extract (((rd_T42 l1 x21_1).f0) : Int).toNat (((rd_T42 l1 x21_1).f1) : Int).toNat) x11_2 l1 (l1.length : Int) x21_1 ((rd_T42 l1 x21_1).f0) ((rd_T42 l1 x21_1).f1) ((rd_T42 l1 x21_1).f2) = some (r1, r2)) ∧ Aside0 (kq ≤ k1) ∧ Aside0 (Kd.R k42 42 w' w.heap.size (fun k_ => k_ ≠ gb316) u7 x7_1) ∧ Aside0 (w'.heap[gb316]? = some (.cells #[.int .i64 ((rd_T42 l1 x21_1).f0), .int .i64 ((rd_T42 l1 x21_1).f1), .string ((rd_T42 l1 x21_1).f2)] 42 (0, 0))) ∧ Aside0 (Below w.heap.size w w'))
                    case atStart => exact ⟨(0), (by first | rfl | (simp; done) | (simp [*]; done)), H', ⟨Nat.le_refl _⟩, ⟨by (with_reducible repeat (first | apply Kd.R_alloc | apply Kd.R_drewN | apply Kd.R_drew)); exact Kd.R_mono (Kd.R_far (p := ⟨gb316, 2, none⟩) (Kd.R_far (p := ⟨gb316, 1, none⟩) (Kd.R_far (p := ⟨gb316, 0, none⟩) (Kd.R_mono HO_7.out (fun k_ hk => (⟨hk, hk.2⟩ : _ ∧ k_ ≠ gb316))) (fun _ hk => hk.2) (.int .i64 ((rd_T42 l1 x21_1).f0))) (fun _ hk => hk.2) (.int .i64 ((rd_T42 l1 x21_1).f1))) (fun _ hk => hk.2) (.string ((rd_T42 l1 x21_1).f2))) (fun _ hk => hk.1.2)⟩, ⟨by (with_reducible repeat (first | refine blk_drewN ?_ _ | refine blk_drew ?_ | refine blk_alloc ?_ _)); refine blk_put (cs := #[.int .i64 ((rd_T42 l1 x21_1).f0), .int .i64 ((rd_T42 l1 x21_1).f1), .string (⟨#[]⟩ : ByteArray)]) ?_ 2 _ rfl; (with_reducible repeat (first | refine blk_drewN ?_ _ | refine blk_drew ?_ | refine blk_alloc ?_ _)); refine blk_put (cs := #[.int .i64 ((rd_T42 l1 x21_1).f0), .int .i64 0, .string (⟨#[]⟩ : ByteArray)]) ?_ 1 _ rfl; (with_reducible repeat (first | refine blk_drewN ?_ _ | refine blk_drew ?_ | refine blk_alloc ?_ _)); refine blk_put (cs := #[.int .i64 0, .int .i64 0, .string (⟨#[]⟩ : ByteArray)]) ?_ 0 _ rfl; (with_reducible repeat (first | refine blk_drewN ?_ _ | refine blk_drew ?_ | refine blk_alloc ?_ _)); exact BK316.out⟩, ⟨by repeat (first | (with_reducible first | exact HB.out | apply below_alloc | apply pw_below_drewN | apply below_drew1 | refine below_set ?_ GE316.out) | exact HB.out)⟩⟩
                    case round =>
                      clear H'
                      try clear c1
                      try clear c2
                      try clear p2
                      try clear c3
                      try clear p3
                      try clear q3
                      try clear hx3
                      try clear c4
                      try clear c4b0
                      try clear c4b1
                      try clear c6
                      try clear c6b0
                      try clear c7
                      try clear c7b0
                      try clear c8
                      try clear c8b0
                      try clear c9
                      try clear c9b0
                      try clear c9b1
                      try clear c10
                      try clear c10b0
                      try clear c10b1
                      try clear c11
                      try clear c11b0
                      try clear c11b1
                      try clear hcz13_0
                      try clear hcz13_1
                      try clear hcz13_2
                      try clear hfz13_0
                      try clear hfz13_1
                      try clear hfz13_2
                      try clear hx315_0
                      try clear hx315_1
                      try clear hx315_2
                      try clear p2
                      try clear p315
                      try clear q315
                      obtain ⟨x11_2, rfl, HA, HK2, HO_7, BK316, HB⟩ := hrel
                      cases gk with
                      | zero => exact absurd HA.out (by simp [edits_Normal.l1])
                      | succ k2 =>
                        have H := HA.out
                        clear HA
                        simp only [edits_Normal.l1] at H
                        try simp only [ByteArray.size_extract, Nat.min_self] at H
                        have HC14 := Aside0.mk H
                        clear H
                        go_upto_region 10 with (fail)
                        go_cut [51] (fun v51 wc => ∃ (kq : Nat) (x51_13 : Bool), v51 = .bool x51_13 ∧ Aside0 (edits_Normal.j2 kq a0 x7_1 (a0.extract (((rd_T42 l1 x21_1).f0) : Int).toNat (((rd_T42 l1 x21_1).f1) : Int).toNat) x11_2 l1 (l1.length : Int) x21_1 x51_13 ((rd_T42 l1 x21_1).f0) ((rd_T42 l1 x21_1).f1) ((rd_T42 l1 x21_1).f2) = some (r1, r2)) ∧ Aside0 (kq ≤ k2) ∧ Aside0 (Kd.R k42 42 wc w.heap.size (fun k_ => k_ ≠ gb316) u7 x7_1) ∧ Aside0 (wc.heap[gb316]? = some (.cells #[.int .i64 ((rd_T42 l1 x21_1).f0), .int .i64 ((rd_T42 l1 x21_1).f1), .string ((rd_T42 l1 x21_1).f2)] 42 (0, 0))) ∧ Aside0 (Below w.heap.size w wc))
                        case first =>
                          have H := HC14.out
                          clear HC14
                          by_cases c15 : x11_2 < ((min (((rd_T42 l1 x21_1).f1) : Int).toNat a0.size - (((rd_T42 l1 x21_1).f0) : Int).toNat : Nat) : Int)
                          · rw [if_pos c15] at H
                            have c15b0 : decide (x11_2 < ((min (((rd_T42 l1 x21_1).f1) : Int).toNat a0.size - (((rd_T42 l1 x21_1).f0) : Int).toNat : Nat) : Int)) = true := decide_eq_true c15
                            try (have c15b0x := c15b0; simp only [ByteArray.size_extract, Nat.min_self] at c15b0x)
                            try (first | have c15b0y := eq_true (of_decide_eq_true c15b0x) | have c15b0y := eq_false (of_decide_eq_false c15b0x))
                            clear c15
                            (first | rw [c15b0] | (simp only [i64_w, i32_w]; rw [c15b0]) | skip)
                            by_cases c16 : x11_2 < (((rd_T42 l1 x21_1).f2).size : Int)
                            · rw [if_pos c16] at H
                              have c16b0 : decide (x11_2 < (((rd_T42 l1 x21_1).f2).size : Int)) = true := decide_eq_true c16
                              clear c16
                              by_cases c17 : 0 ≤ x11_2
                              · rw [if_pos c17] at H
                                have c17b0 : decide (0 ≤ x11_2) = true := decide_eq_true c17
                                clear c17
                                have H' := Aside0.mk H
                                clear H
                                try go_wp2
                                have n0_ := Aside0.mk (Kd.R_drew HO_7.out)
                                have n1_ := Aside0.mk (blk_drew BK316.out)
                                have n2_ := Aside0.mk (below_drew1 HB.out)
                                clear HO_7
                                clear BK316
                                clear HB
                                have HO_7 := n0_
                                have BK316 := n1_
                                have HB := n2_
                                clear n0_ n1_ n2_
                                have p18 : 0 ≤ (x11_2 : Int) := of_decide_eq_true (by first | (with_reducible assumption) | assumption)
                                have q18 : x11_2 < ((min (((rd_T42 l1 x21_1).f1) : Int).toNat a0.size - (((rd_T42 l1 x21_1).f0) : Int).toNat : Nat) : Int) := of_decide_eq_true (by first | (with_reducible assumption) | assumption)
                                have hx18 := bt_at (a0.extract (((rd_T42 l1 x21_1).f0) : Int).toNat (((rd_T42 l1 x21_1).f1) : Int).toNat) x11_2
                                replace p18 := eq_true p18
                                replace q18 := eq_true q18
                                have p19 : 0 ≤ (x11_2 : Int) := of_decide_eq_true (by first | (with_reducible assumption) | assumption)
                                have q19 : x11_2 < (((rd_T42 l1 x21_1).f2).size : Int) := of_decide_eq_true (by first | (with_reducible assumption) | assumption)
                                have hx19 := bt_at ((rd_T42 l1 x21_1).f2) x11_2
                                replace p19 := eq_true p19
                                replace q19 := eq_true q19
                                refine start_ (n := 21) (S := fun w' => w'.cell? ⟨gb316, 0, none⟩ = some (.int .i64 ((rd_T42 l1 x21_1).f0)) ∧ w'.cell? ⟨gb316, 1, none⟩ = some (.int .i64 ((rd_T42 l1 x21_1).f1)) ∧ w'.cell? ⟨gb316, 2, none⟩ = some (.string ((rd_T42 l1 x21_1).f2))) (ds := []) #[false, false, false, false, false, false, false, false, false, false, false, false, false, false, false, false, false, false, false, false, false] (by kernel_rfl) rfl rfl ⟨(blk_cell BK316.out 0).trans rfl, (blk_cell BK316.out 1).trans rfl, (blk_cell BK316.out 2).trans rfl⟩ (fun hHeld => ?_); refine with_tabW edits_Normal.tab10 edits_Normal.bits10 (fun HT_ HW_ => ?_)
                                generalize wr.drew = w20 at HO_7 BK316 HB hHeld ⊢
                                refine pure_ (i := 0) (N := some 31) (v := ?_) (a' := ?_) #[true, false, false, false, false, false, false, false, false, false, false, false, false, false, false, false, false, false, false, false, false] rfl rfl (any_of HT_.out (by kernel_rfl)) (fun _ _ _ h => h) (Or.inl ⟨by rfl, ?_⟩) ?_ ?_
                                rotate_left
                                · intro w'
                                  go_simp
                                  with_reducible rfl
                                rotate_left
                                · simp only [Act.put, List.setIfInBounds_toArray, List.set_cons_zero, List.set_cons_succ, i64_w, i32_w]
                                  rfl
                                refine pure_ (i := 1) (N := some 32) (v := ?_) (a' := ?_) #[true, true, false, false, false, false, false, false, false, false, false, false, false, false, false, false, false, false, false, false, false] rfl rfl (any_of HT_.out (by kernel_rfl)) (fun _ _ _ h => h) (Or.inl ⟨by rfl, ?_⟩) ?_ ?_
                                rotate_left
                                · intro w'
                                  go_simp
                                  with_reducible rfl
                                rotate_left
                                · simp only [Act.put, List.setIfInBounds_toArray, List.set_cons_zero, List.set_cons_succ, i64_w, i32_w]
                                  rfl
                                refine pure_ (i := 2) (N := some 33) (v := ?_) (a' := ?_) #[true, true, true, false, false, false, false, false, false, false, false, false, false, false, false, false, false, false, false, false, false] rfl rfl (any_of HT_.out (by kernel_rfl)) (fun _ _ _ h => h) (Or.inl ⟨by rfl, ?_⟩) ?_ ?_
                                rotate_left
                                · intro w'
                                  go_simp
                                  with_reducible rfl
                                rotate_left
                                · simp only [Act.put, List.setIfInBounds_toArray, List.set_cons_zero, List.set_cons_succ, i64_w, i32_w]
                                  rfl
                                refine pure_ (i := 3) (N := some 34) (v := ?_) (a' := ?_) #[true, true, true, true, false, false, false, false, false, false, false, false, false, false, false, false, false, false, false, false, false] rfl rfl (any_of HT_.out (by kernel_rfl)) (fun _ _ _ h => h) (Or.inl ⟨by rfl, ?_⟩) ?_ ?_
                                rotate_left
                                · intro w'
                                  go_simp
                                  with_reducible rfl
                                rotate_left
                                · simp only [Act.put, List.setIfInBounds_toArray, List.set_cons_zero, List.set_cons_succ, i64_w, i32_w]
                                  rfl
                                refine pure_ (i := 4) (N := some 35) (v := ?_) (a' := ?_) #[true, true, true, true, true, false, false, false, false, false, false, false, false, false, false, false, false, false, false, false, false] rfl rfl (any_of HT_.out (by kernel_rfl)) (fun _ _ _ h => h) (Or.inl ⟨by rfl, ?_⟩) ?_ ?_
                                rotate_left
                                · intro w'
                                  go_simp
                                  with_reducible rfl
                                rotate_left
                                · simp only [Act.put, List.setIfInBounds_toArray, List.set_cons_zero, List.set_cons_succ, i64_w, i32_w]
                                  rfl
                                refine pure_ (i := 5) (N := some 36) (v := ?_) (a' := ?_) #[true, true, true, true, true, true, false, false, false, false, false, false, false, false, false, false, false, false, false, false, false] rfl rfl (any_of HT_.out (by kernel_rfl)) (fun _ _ _ h => h) (Or.inl ⟨by rfl, ?_⟩) ?_ ?_
                                rotate_left
                                · intro w'
                                  go_simp
                                  with_reducible rfl
                                rotate_left
                                · simp only [Act.put, List.setIfInBounds_toArray, List.set_cons_zero, List.set_cons_succ, i64_w, i32_w]
                                  rfl
                                refine pure_ (i := 6) (N := some 37) (v := ?_) (a' := ?_) #[true, true, true, true, true, true, true, false, false, false, false, false, false, false, false, false, false, false, false, false, false] rfl rfl (any_of HT_.out (by kernel_rfl)) (fun _ _ _ h => h) (Or.inl ⟨by rfl, ?_⟩) ?_ ?_
                                rotate_left
                                · intro w'
                                  go_simp
                                  with_reducible rfl
                                rotate_left
                                · simp only [Act.put, List.setIfInBounds_toArray, List.set_cons_zero, List.set_cons_succ, i64_w, i32_w]
                                  rfl
                                refine take_ (i := 7) (N := some 38) (v := ?_) (a' := ?_) #[true, true, true, true, true, true, true, true, false, false, false, false, false, false, false, false, false, false, false, false, false] rfl rfl (take_ofW HT_.out HW_.out (by kernel_rfl)) (fun _ _ _ h => h) (Or.inl ⟨by rfl, ?_⟩) hHeld ?_ ?_
                                rotate_left
                                · rintro w' ⟨s0, s1, s2⟩
                                  go_simp
                                  with_reducible rfl
                                rotate_left
                                · simp only [Act.put, List.setIfInBounds_toArray, List.set_cons_zero, List.set_cons_succ, i64_w, i32_w]
                                  rfl
                                refine pure_ (i := 8) (N := some 39) (v := ?_) (a' := ?_) #[true, true, true, true, true, true, true, true, true, false, false, false, false, false, false, false, false, false, false, false, false] rfl rfl (any_of HT_.out (by kernel_rfl)) (fun _ _ _ h => h) (Or.inl ⟨by rfl, ?_⟩) ?_ ?_
                                rotate_left
                                · intro w'
                                  go_simp
                                  with_reducible rfl
                                rotate_left
                                · simp only [Act.put, List.setIfInBounds_toArray, List.set_cons_zero, List.set_cons_succ, i64_w, i32_w]
                                  rfl
                                refine pure_ (i := 9) (N := some 40) (v := ?_) (a' := ?_) #[true, true, true, true, true, true, true, true, true, true, false, false, false, false, false, false, false, false, false, false, false] rfl rfl (any_of HT_.out (by kernel_rfl)) (fun _ _ _ h => h) (Or.inl ⟨by rfl, ?_⟩) ?_ ?_
                                rotate_left
                                · intro w'
                                  go_simp
                                  with_reducible rfl
                                rotate_left
                                · simp only [Act.put, List.setIfInBounds_toArray, List.set_cons_zero, List.set_cons_succ, i64_w, i32_w]
                                  rfl
                                refine pure_ (i := 10) (N := some 41) (v := ?_) (a' := ?_) #[true, true, true, true, true, true, true, true, true, true, true, false, false, false, false, false, false, false, false, false, false] rfl rfl (any_of HT_.out (by kernel_rfl)) (fun _ _ _ h => h) (Or.inl ⟨by rfl, ?_⟩) ?_ ?_
                                rotate_left
                                · intro w'
                                  go_simp
                                  with_reducible rfl
                                rotate_left
                                · simp only [Act.put, List.setIfInBounds_toArray, List.set_cons_zero, List.set_cons_succ, i64_w, i32_w]
                                  rfl
                                refine pure_ (i := 11) (N := some 42) (v := ?_) (a' := ?_) #[true, true, true, true, true, true, true, true, true, true, true, true, false, false, false, false, false, false, false, false, false] rfl rfl (any_of HT_.out (by kernel_rfl)) (fun _ _ _ h => h) (Or.inl ⟨by rfl, ?_⟩) ?_ ?_
                                rotate_left
                                · intro w'
                                  go_simp
                                  with_reducible rfl
                                rotate_left
                                · simp only [Act.put, List.setIfInBounds_toArray, List.set_cons_zero, List.set_cons_succ, i64_w, i32_w]
                                  rfl
                                refine pure_ (i := 12) (N := some 43) (v := ?_) (a' := ?_) #[true, true, true, true, true, true, true, true, true, true, true, true, true, false, false, false, false, false, false, false, false] rfl rfl (any_of HT_.out (by kernel_rfl)) (fun _ _ _ h => h) (Or.inl ⟨by rfl, ?_⟩) ?_ ?_
                                rotate_left
                                · intro w'
                                  go_simp
                                  with_reducible rfl
                                rotate_left
                                · simp only [Act.put, List.setIfInBounds_toArray, List.set_cons_zero, List.set_cons_succ, i64_w, i32_w]
                                  rfl
                                refine pure_ (i := 13) (N := some 44) (v := ?_) (a' := ?_) #[true, true, true, true, true, true, true, true, true, true, true, true, true, true, false, false, false, false, false, false, false] rfl rfl (any_of HT_.out (by kernel_rfl)) (fun _ _ _ h => h) (Or.inl ⟨by rfl, ?_⟩) ?_ ?_
                                rotate_left
                                · intro w'
                                  go_simp
                                  with_reducible rfl
                                rotate_left
                                · simp only [Act.put, List.setIfInBounds_toArray, List.set_cons_zero, List.set_cons_succ, i64_w, i32_w]
                                  rfl
                                refine pure_ (i := 15) (N := some 46) (v := ?_) (a' := ?_) #[true, true, true, true, true, true, true, true, true, true, true, true, true, true, false, true, false, false, false, false, false] rfl rfl (any_of HT_.out (by kernel_rfl)) (fun _ _ _ h => h) (Or.inl ⟨by rfl, ?_⟩) ?_ ?_
                                rotate_left
                                · intro w'
                                  go_simp
                                  with_reducible rfl
                                rotate_left
                                · simp only [Act.put, List.setIfInBounds_toArray, List.set_cons_zero, List.set_cons_succ, i64_w, i32_w]
                                  rfl
                                refine pure_ (i := 17) (N := some 48) (v := ?_) (a' := ?_) #[true, true, true, true, true, true, true, true, true, true, true, true, true, true, false, true, false, true, false, false, false] rfl rfl (any_of HT_.out (by kernel_rfl)) (fun _ _ _ h => h) (Or.inl ⟨by rfl, ?_⟩) ?_ ?_
                                rotate_left
                                · intro w'
                                  go_simp
                                  with_reducible rfl
                                rotate_left
                                · simp only [Act.put, List.setIfInBounds_toArray, List.set_cons_zero, List.set_cons_succ, i64_w, i32_w]
                                  rfl
                                refine take_ (i := 14) (N := some 45) (v := ?_) (a' := ?_) #[true, true, true, true, true, true, true, true, true, true, true, true, true, true, true, true, false, true, false, false, false] rfl rfl (take_ofW HT_.out HW_.out (by kernel_rfl)) (fun _ _ _ h => h) (Or.inl ⟨by rfl, ?_⟩) hHeld ?_ ?_
                                rotate_left
                                · rintro w' ⟨s0, s1, s2⟩
                                  go_simp
                                  with_reducible rfl
                                rotate_left
                                · simp only [Act.put, List.setIfInBounds_toArray, List.set_cons_zero, List.set_cons_succ, i64_w, i32_w]
                                  rfl
                                refine take_ (i := 16) (N := some 47) (v := ?_) (a' := ?_) #[true, true, true, true, true, true, true, true, true, true, true, true, true, true, true, true, true, true, false, false, false] rfl rfl (take_ofW HT_.out HW_.out (by kernel_rfl)) (fun _ _ _ h => h) (Or.inl ⟨by rfl, ?_⟩) hHeld ?_ ?_
                                rotate_left
                                · rintro w' ⟨s0, s1, s2⟩
                                  go_simp
                                  with_reducible rfl
                                rotate_left
                                · simp only [Act.put, List.setIfInBounds_toArray, List.set_cons_zero, List.set_cons_succ, i64_w, i32_w]
                                  rfl
                                refine take_ (i := 18) (N := some 49) (v := ?_) (a' := ?_) #[true, true, true, true, true, true, true, true, true, true, true, true, true, true, true, true, true, true, true, false, false] rfl rfl (take_ofW HT_.out HW_.out (by kernel_rfl)) (fun _ _ _ h => h) (Or.inl ⟨by rfl, ?_⟩) hHeld ?_ ?_
                                rotate_left
                                · rintro w' ⟨s0, s1, s2⟩
                                  go_simp
                                  with_reducible rfl
                                rotate_left
                                · simp only [Act.put, List.setIfInBounds_toArray, List.set_cons_zero, List.set_cons_succ, i64_w, i32_w]
                                  rfl
                                refine pure_ (i := 19) (N := some 50) (v := ?_) (a' := ?_) #[true, true, true, true, true, true, true, true, true, true, true, true, true, true, true, true, true, true, true, true, false] rfl rfl (any_of HT_.out (by kernel_rfl)) (fun _ _ _ h => h) (Or.inl ⟨by rfl, ?_⟩) ?_ ?_
                                rotate_left
                                · intro w'
                                  go_simp
                                  with_reducible rfl
                                rotate_left
                                · simp only [Act.put, List.setIfInBounds_toArray, List.set_cons_zero, List.set_cons_succ, i64_w, i32_w]
                                  rfl
                                refine pure_ (i := 20) (N := some 51) (v := ?_) (a' := ?_) #[true, true, true, true, true, true, true, true, true, true, true, true, true, true, true, true, true, true, true, true, true] rfl rfl (any_of HT_.out (by kernel_rfl)) (fun _ _ _ h => h) (Or.inl ⟨by rfl, ?_⟩) ?_ ?_
                                rotate_left
                                · intro w'
                                  go_simp
                                  with_reducible rfl
                                rotate_left
                                · simp only [Act.put, List.setIfInBounds_toArray, List.set_cons_zero, List.set_cons_succ, i64_w, i32_w]
                                  rfl
                                refine done_ (done_of HT_.out (by kernel_rfl)) ?_
                                try go_wp2
                                go_meet
                                case rel => exact ⟨_, (((bt (a0.extract (((rd_T42 l1 x21_1).f0) : Int).toNat (((rd_T42 l1 x21_1).f1) : Int).toNat) x11_2) == (bt ((rd_T42 l1 x21_1).f2) x11_2))), (by first | rfl | (simp; done) | (simp [*]; done)), H', ⟨by have := HK1.out; have := HK2.out; first | omega | exact Nat.le_refl _⟩, ⟨by (with_reducible repeat (first | apply Kd.R_alloc | apply Kd.R_drewN | apply Kd.R_drew)); exact HO_7.out⟩, ⟨by (with_reducible repeat (first | refine blk_drewN ?_ _ | refine blk_drew ?_ | refine blk_alloc ?_ _)); exact BK316.out⟩, ⟨by repeat (first | (with_reducible first | exact HB.out | apply below_alloc | apply pw_below_drewN | apply below_drew1 | refine below_set ?_ GE316.out) | exact HB.out)⟩⟩
                              · rw [if_neg c17] at H
                                exact absurd H (by simp)
                            · rw [if_neg c16] at H
                              have c16b0 : decide (x11_2 < (((rd_T42 l1 x21_1).f2).size : Int)) = false := decide_eq_false c16
                              clear c16
                              have H' := Aside0.mk H
                              clear H
                              try go_wp2
                              have n0_ := Aside0.mk (Kd.R_drew HO_7.out)
                              have n1_ := Aside0.mk (blk_drew BK316.out)
                              have n2_ := Aside0.mk (below_drew1 HB.out)
                              clear HO_7
                              clear BK316
                              clear HB
                              have HO_7 := n0_
                              have BK316 := n1_
                              have HB := n2_
                              clear n0_ n1_ n2_
                              refine start_ (n := 21) (S := fun w' => w'.cell? ⟨gb316, 0, none⟩ = some (.int .i64 ((rd_T42 l1 x21_1).f0)) ∧ w'.cell? ⟨gb316, 1, none⟩ = some (.int .i64 ((rd_T42 l1 x21_1).f1)) ∧ w'.cell? ⟨gb316, 2, none⟩ = some (.string ((rd_T42 l1 x21_1).f2))) (ds := []) #[false, false, false, false, false, false, false, false, false, false, false, false, false, false, false, false, false, false, false, false, false] (by kernel_rfl) rfl rfl ⟨(blk_cell BK316.out 0).trans rfl, (blk_cell BK316.out 1).trans rfl, (blk_cell BK316.out 2).trans rfl⟩ (fun hHeld => ?_); refine with_tabW edits_Normal.tab10 edits_Normal.bits10 (fun HT_ HW_ => ?_)
                              generalize wr.drew = w21 at HO_7 BK316 HB hHeld ⊢
                              refine pure_ (i := 0) (N := some 31) (v := ?_) (a' := ?_) #[true, false, false, false, false, false, false, false, false, false, false, false, false, false, false, false, false, false, false, false, false] rfl rfl (any_of HT_.out (by kernel_rfl)) (fun _ _ _ h => h) (Or.inl ⟨by rfl, ?_⟩) ?_ ?_
                              rotate_left
                              · intro w'
                                go_simp
                                with_reducible rfl
                              rotate_left
                              · simp only [Act.put, List.setIfInBounds_toArray, List.set_cons_zero, List.set_cons_succ, i64_w, i32_w]
                                rfl
                              refine pure_ (i := 1) (N := some 32) (v := ?_) (a' := ?_) #[true, true, false, false, false, false, false, false, false, false, false, false, false, false, false, false, false, false, false, false, false] rfl rfl (any_of HT_.out (by kernel_rfl)) (fun _ _ _ h => h) (Or.inl ⟨by rfl, ?_⟩) ?_ ?_
                              rotate_left
                              · intro w'
                                go_simp
                                with_reducible rfl
                              rotate_left
                              · simp only [Act.put, List.setIfInBounds_toArray, List.set_cons_zero, List.set_cons_succ, i64_w, i32_w]
                                rfl
                              refine pure_ (i := 2) (N := some 33) (v := ?_) (a' := ?_) #[true, true, true, false, false, false, false, false, false, false, false, false, false, false, false, false, false, false, false, false, false] rfl rfl (any_of HT_.out (by kernel_rfl)) (fun _ _ _ h => h) (Or.inl ⟨by rfl, ?_⟩) ?_ ?_
                              rotate_left
                              · intro w'
                                go_simp
                                with_reducible rfl
                              rotate_left
                              · simp only [Act.put, List.setIfInBounds_toArray, List.set_cons_zero, List.set_cons_succ, i64_w, i32_w]
                                rfl
                              refine pure_ (i := 3) (N := some 34) (v := ?_) (a' := ?_) #[true, true, true, true, false, false, false, false, false, false, false, false, false, false, false, false, false, false, false, false, false] rfl rfl (any_of HT_.out (by kernel_rfl)) (fun _ _ _ h => h) (Or.inl ⟨by rfl, ?_⟩) ?_ ?_
                              rotate_left
                              · intro w'
                                go_simp
                                with_reducible rfl
                              rotate_left
                              · simp only [Act.put, List.setIfInBounds_toArray, List.set_cons_zero, List.set_cons_succ, i64_w, i32_w]
                                rfl
                              refine pure_ (i := 4) (N := some 35) (v := ?_) (a' := ?_) #[true, true, true, true, true, false, false, false, false, false, false, false, false, false, false, false, false, false, false, false, false] rfl rfl (any_of HT_.out (by kernel_rfl)) (fun _ _ _ h => h) (Or.inl ⟨by rfl, ?_⟩) ?_ ?_
                              rotate_left
                              · intro w'
                                go_simp
                                with_reducible rfl
                              rotate_left
                              · simp only [Act.put, List.setIfInBounds_toArray, List.set_cons_zero, List.set_cons_succ, i64_w, i32_w]
                                rfl
                              refine pure_ (i := 5) (N := some 36) (v := ?_) (a' := ?_) #[true, true, true, true, true, true, false, false, false, false, false, false, false, false, false, false, false, false, false, false, false] rfl rfl (any_of HT_.out (by kernel_rfl)) (fun _ _ _ h => h) (Or.inl ⟨by rfl, ?_⟩) ?_ ?_
                              rotate_left
                              · intro w'
                                go_simp
                                with_reducible rfl
                              rotate_left
                              · simp only [Act.put, List.setIfInBounds_toArray, List.set_cons_zero, List.set_cons_succ, i64_w, i32_w]
                                rfl
                              refine pure_ (i := 6) (N := some 37) (v := ?_) (a' := ?_) #[true, true, true, true, true, true, true, false, false, false, false, false, false, false, false, false, false, false, false, false, false] rfl rfl (any_of HT_.out (by kernel_rfl)) (fun _ _ _ h => h) (Or.inl ⟨by rfl, ?_⟩) ?_ ?_
                              rotate_left
                              · intro w'
                                go_simp
                                with_reducible rfl
                              rotate_left
                              · simp only [Act.put, List.setIfInBounds_toArray, List.set_cons_zero, List.set_cons_succ, i64_w, i32_w]
                                rfl
                              refine take_ (i := 7) (N := some 38) (v := ?_) (a' := ?_) #[true, true, true, true, true, true, true, true, false, false, false, false, false, false, false, false, false, false, false, false, false] rfl rfl (take_ofW HT_.out HW_.out (by kernel_rfl)) (fun _ _ _ h => h) (Or.inl ⟨by rfl, ?_⟩) hHeld ?_ ?_
                              rotate_left
                              · rintro w' ⟨s0, s1, s2⟩
                                go_simp
                                with_reducible rfl
                              rotate_left
                              · simp only [Act.put, List.setIfInBounds_toArray, List.set_cons_zero, List.set_cons_succ, i64_w, i32_w]
                                rfl
                              refine pure_ (i := 8) (N := some 39) (v := ?_) (a' := ?_) #[true, true, true, true, true, true, true, true, true, false, false, false, false, false, false, false, false, false, false, false, false] rfl rfl (any_of HT_.out (by kernel_rfl)) (fun _ _ _ h => h) (Or.inl ⟨by rfl, ?_⟩) ?_ ?_
                              rotate_left
                              · intro w'
                                go_simp
                                with_reducible rfl
                              rotate_left
                              · simp only [Act.put, List.setIfInBounds_toArray, List.set_cons_zero, List.set_cons_succ, i64_w, i32_w]
                                rfl
                              refine pure_ (i := 9) (N := some 40) (v := ?_) (a' := ?_) #[true, true, true, true, true, true, true, true, true, true, false, false, false, false, false, false, false, false, false, false, false] rfl rfl (any_of HT_.out (by kernel_rfl)) (fun _ _ _ h => h) (Or.inl ⟨by rfl, ?_⟩) ?_ ?_
                              rotate_left
                              · intro w'
                                go_simp
                                with_reducible rfl
                              rotate_left
                              · simp only [Act.put, List.setIfInBounds_toArray, List.set_cons_zero, List.set_cons_succ, i64_w, i32_w]
                                rfl
                              refine pure_ (i := 10) (N := some 41) (v := ?_) (a' := ?_) #[true, true, true, true, true, true, true, true, true, true, true, false, false, false, false, false, false, false, false, false, false] rfl rfl (any_of HT_.out (by kernel_rfl)) (fun _ _ _ h => h) (Or.inl ⟨by rfl, ?_⟩) ?_ ?_
                              rotate_left
                              · intro w'
                                go_simp
                                with_reducible rfl
                              rotate_left
                              · simp only [Act.put, List.setIfInBounds_toArray, List.set_cons_zero, List.set_cons_succ, i64_w, i32_w]
                                rfl
                              refine pure_ (i := 11) (N := some 42) (v := ?_) (a' := ?_) #[true, true, true, true, true, true, true, true, true, true, true, true, false, false, false, false, false, false, false, false, false] rfl rfl (any_of HT_.out (by kernel_rfl)) (fun _ _ _ h => h) (Or.inl ⟨by rfl, ?_⟩) ?_ ?_
                              rotate_left
                              · intro w'
                                go_simp
                                with_reducible rfl
                              rotate_left
                              · simp only [Act.put, List.setIfInBounds_toArray, List.set_cons_zero, List.set_cons_succ, i64_w, i32_w]
                                rfl
                              refine pure_ (i := 12) (N := some 43) (v := undef) (a' := ?_) #[true, true, true, true, true, true, true, true, true, true, true, true, true, false, false, false, false, false, false, false, false] rfl rfl (any_of HT_.out (by kernel_rfl)) (fun _ _ _ h => h) (Or.inr ⟨by rfl, rfl⟩) ?_ ?_
                              rotate_left
                              · simp only [Act.put, List.setIfInBounds_toArray, List.set_cons_zero, List.set_cons_succ, i64_w, i32_w]
                                rfl
                              refine pure_ (i := 13) (N := some 44) (v := undef) (a' := ?_) #[true, true, true, true, true, true, true, true, true, true, true, true, true, true, false, false, false, false, false, false, false] rfl rfl (any_of HT_.out (by kernel_rfl)) (fun _ _ _ h => h) (Or.inr ⟨by rfl, rfl⟩) ?_ ?_
                              rotate_left
                              · simp only [Act.put, List.setIfInBounds_toArray, List.set_cons_zero, List.set_cons_succ, i64_w, i32_w]
                                rfl
                              refine pure_ (i := 14) (N := some 45) (v := undef) (a' := ?_) #[true, true, true, true, true, true, true, true, true, true, true, true, true, true, true, false, false, false, false, false, false] rfl rfl (any_of HT_.out (by kernel_rfl)) (fun _ _ _ h => h) (Or.inr ⟨by rfl, rfl⟩) ?_ ?_
                              rotate_left
                              · simp only [Act.put, List.setIfInBounds_toArray, List.set_cons_zero, List.set_cons_succ, i64_w, i32_w]
                                rfl
                              refine pure_ (i := 15) (N := some 46) (v := undef) (a' := ?_) #[true, true, true, true, true, true, true, true, true, true, true, true, true, true, true, true, false, false, false, false, false] rfl rfl (any_of HT_.out (by kernel_rfl)) (fun _ _ _ h => h) (Or.inr ⟨by rfl, rfl⟩) ?_ ?_
                              rotate_left
                              · simp only [Act.put, List.setIfInBounds_toArray, List.set_cons_zero, List.set_cons_succ, i64_w, i32_w]
                                rfl
                              refine pure_ (i := 16) (N := some 47) (v := undef) (a' := ?_) #[true, true, true, true, true, true, true, true, true, true, true, true, true, true, true, true, true, false, false, false, false] rfl rfl (any_of HT_.out (by kernel_rfl)) (fun _ _ _ h => h) (Or.inr ⟨by rfl, rfl⟩) ?_ ?_
                              rotate_left
                              · simp only [Act.put, List.setIfInBounds_toArray, List.set_cons_zero, List.set_cons_succ, i64_w, i32_w]
                                rfl
                              refine pure_ (i := 17) (N := some 48) (v := undef) (a' := ?_) #[true, true, true, true, true, true, true, true, true, true, true, true, true, true, true, true, true, true, false, false, false] rfl rfl (any_of HT_.out (by kernel_rfl)) (fun _ _ _ h => h) (Or.inr ⟨by rfl, rfl⟩) ?_ ?_
                              rotate_left
                              · simp only [Act.put, List.setIfInBounds_toArray, List.set_cons_zero, List.set_cons_succ, i64_w, i32_w]
                                rfl
                              refine pure_ (i := 18) (N := some 49) (v := undef) (a' := ?_) #[true, true, true, true, true, true, true, true, true, true, true, true, true, true, true, true, true, true, true, false, false] rfl rfl (any_of HT_.out (by kernel_rfl)) (fun _ _ _ h => h) (Or.inr ⟨by rfl, rfl⟩) ?_ ?_
                              rotate_left
                              · simp only [Act.put, List.setIfInBounds_toArray, List.set_cons_zero, List.set_cons_succ, i64_w, i32_w]
                                rfl
                              refine pure_ (i := 19) (N := some 50) (v := undef) (a' := ?_) #[true, true, true, true, true, true, true, true, true, true, true, true, true, true, true, true, true, true, true, true, false] rfl rfl (any_of HT_.out (by kernel_rfl)) (fun _ _ _ h => h) (Or.inr ⟨by rfl, rfl⟩) ?_ ?_
                              rotate_left
                              · simp only [Act.put, List.setIfInBounds_toArray, List.set_cons_zero, List.set_cons_succ, i64_w, i32_w]
                                rfl
                              refine pure_ (i := 20) (N := some 51) (v := ?_) (a' := ?_) #[true, true, true, true, true, true, true, true, true, true, true, true, true, true, true, true, true, true, true, true, true] rfl rfl (any_of HT_.out (by kernel_rfl)) (fun _ _ _ h => h) (Or.inl ⟨by rfl, ?_⟩) ?_ ?_
                              rotate_left
                              · intro w'
                                go_simp
                                with_reducible rfl
                              rotate_left
                              · simp only [Act.put, List.setIfInBounds_toArray, List.set_cons_zero, List.set_cons_succ, i64_w, i32_w]
                                rfl
                              refine done_ (done_of HT_.out (by kernel_rfl)) ?_
                              try go_wp2
                              go_meet
                              case rel => exact ⟨_, (false), (by first | rfl | (simp; done) | (simp [*]; done)), H', ⟨by have := HK1.out; have := HK2.out; first | omega | exact Nat.le_refl _⟩, ⟨by (with_reducible repeat (first | apply Kd.R_alloc | apply Kd.R_drewN | apply Kd.R_drew)); exact HO_7.out⟩, ⟨by (with_reducible repeat (first | refine blk_drewN ?_ _ | refine blk_drew ?_ | refine blk_alloc ?_ _)); exact BK316.out⟩, ⟨by repeat (first | (with_reducible first | exact HB.out | apply below_alloc | apply pw_below_drewN | apply below_drew1 | refine below_set ?_ GE316.out) | exact HB.out)⟩⟩
                          · rw [if_neg c15] at H
                            have c15b0 : decide (x11_2 < ((min (((rd_T42 l1 x21_1).f1) : Int).toNat a0.size - (((rd_T42 l1 x21_1).f0) : Int).toNat : Nat) : Int)) = false := decide_eq_false c15
                            try (have c15b0x := c15b0; simp only [ByteArray.size_extract, Nat.min_self] at c15b0x)
                            try (first | have c15b0y := eq_true (of_decide_eq_true c15b0x) | have c15b0y := eq_false (of_decide_eq_false c15b0x))
                            clear c15
                            (first | rw [c15b0] | (simp only [i64_w, i32_w]; rw [c15b0]) | skip)
                            have H' := Aside0.mk H
                            clear H
                            try go_wp2
                            have n0_ := Aside0.mk (Kd.R_drew HO_7.out)
                            have n1_ := Aside0.mk (blk_drew BK316.out)
                            have n2_ := Aside0.mk (below_drew1 HB.out)
                            clear HO_7
                            clear BK316
                            clear HB
                            have HO_7 := n0_
                            have BK316 := n1_
                            have HB := n2_
                            clear n0_ n1_ n2_
                            refine start_ (n := 21) (S := fun w' => True) (ds := []) #[false, false, false, false, false, false, false, false, false, false, false, false, false, false, false, false, false, false, false, false, false] (by kernel_rfl) rfl rfl trivial (fun hHeld => ?_); refine with_tabW edits_Normal.tab10 edits_Normal.bits10 (fun HT_ HW_ => ?_)
                            generalize wr.drew = w22 at HO_7 BK316 HB hHeld ⊢
                            refine pure_ (i := 0) (N := some 31) (v := ?_) (a' := ?_) #[true, false, false, false, false, false, false, false, false, false, false, false, false, false, false, false, false, false, false, false, false] rfl rfl (any_of HT_.out (by kernel_rfl)) (fun _ _ _ h => h) (Or.inl ⟨by rfl, ?_⟩) ?_ ?_
                            rotate_left
                            · intro w'
                              go_simp
                              with_reducible rfl
                            rotate_left
                            · simp only [Act.put, List.setIfInBounds_toArray, List.set_cons_zero, List.set_cons_succ, i64_w, i32_w]
                              rfl
                            refine pure_ (i := 1) (N := some 32) (v := ?_) (a' := ?_) #[true, true, false, false, false, false, false, false, false, false, false, false, false, false, false, false, false, false, false, false, false] rfl rfl (any_of HT_.out (by kernel_rfl)) (fun _ _ _ h => h) (Or.inl ⟨by rfl, ?_⟩) ?_ ?_
                            rotate_left
                            · intro w'
                              go_simp
                              with_reducible rfl
                            rotate_left
                            · simp only [Act.put, List.setIfInBounds_toArray, List.set_cons_zero, List.set_cons_succ, i64_w, i32_w]
                              rfl
                            refine pure_ (i := 2) (N := some 33) (v := ?_) (a' := ?_) #[true, true, true, false, false, false, false, false, false, false, false, false, false, false, false, false, false, false, false, false, false] rfl rfl (any_of HT_.out (by kernel_rfl)) (fun _ _ _ h => h) (Or.inl ⟨by rfl, ?_⟩) ?_ ?_
                            rotate_left
                            · intro w'
                              go_simp
                              with_reducible rfl
                            rotate_left
                            · simp only [Act.put, List.setIfInBounds_toArray, List.set_cons_zero, List.set_cons_succ, i64_w, i32_w]
                              rfl
                            refine pure_ (i := 3) (N := some 34) (v := ?_) (a' := ?_) #[true, true, true, true, false, false, false, false, false, false, false, false, false, false, false, false, false, false, false, false, false] rfl rfl (any_of HT_.out (by kernel_rfl)) (fun _ _ _ h => h) (Or.inl ⟨by rfl, ?_⟩) ?_ ?_
                            rotate_left
                            · intro w'
                              go_simp
                              with_reducible rfl
                            rotate_left
                            · simp only [Act.put, List.setIfInBounds_toArray, List.set_cons_zero, List.set_cons_succ, i64_w, i32_w]
                              rfl
                            refine pure_ (i := 4) (N := some 35) (v := ?_) (a' := ?_) #[true, true, true, true, true, false, false, false, false, false, false, false, false, false, false, false, false, false, false, false, false] rfl rfl (any_of HT_.out (by kernel_rfl)) (fun _ _ _ h => h) (Or.inl ⟨by rfl, ?_⟩) ?_ ?_
                            rotate_left
                            · intro w'
                              go_simp
                              with_reducible rfl
                            rotate_left
                            · simp only [Act.put, List.setIfInBounds_toArray, List.set_cons_zero, List.set_cons_succ, i64_w, i32_w]
                              rfl
                            refine pure_ (i := 5) (N := some 36) (v := undef) (a' := ?_) #[true, true, true, true, true, true, false, false, false, false, false, false, false, false, false, false, false, false, false, false, false] rfl rfl (any_of HT_.out (by kernel_rfl)) (fun _ _ _ h => h) (Or.inr ⟨by rfl, rfl⟩) ?_ ?_
                            rotate_left
                            · simp only [Act.put, List.setIfInBounds_toArray, List.set_cons_zero, List.set_cons_succ, i64_w, i32_w]
                              rfl
                            refine pure_ (i := 6) (N := some 37) (v := undef) (a' := ?_) #[true, true, true, true, true, true, true, false, false, false, false, false, false, false, false, false, false, false, false, false, false] rfl rfl (any_of HT_.out (by kernel_rfl)) (fun _ _ _ h => h) (Or.inr ⟨by rfl, rfl⟩) ?_ ?_
                            rotate_left
                            · simp only [Act.put, List.setIfInBounds_toArray, List.set_cons_zero, List.set_cons_succ, i64_w, i32_w]
                              rfl
                            refine pure_ (i := 7) (N := some 38) (v := undef) (a' := ?_) #[true, true, true, true, true, true, true, true, false, false, false, false, false, false, false, false, false, false, false, false, false] rfl rfl (any_of HT_.out (by kernel_rfl)) (fun _ _ _ h => h) (Or.inr ⟨by rfl, rfl⟩) ?_ ?_
                            rotate_left
                            · simp only [Act.put, List.setIfInBounds_toArray, List.set_cons_zero, List.set_cons_succ, i64_w, i32_w]
                              rfl
                            refine pure_ (i := 8) (N := some 39) (v := undef) (a' := ?_) #[true, true, true, true, true, true, true, true, true, false, false, false, false, false, false, false, false, false, false, false, false] rfl rfl (any_of HT_.out (by kernel_rfl)) (fun _ _ _ h => h) (Or.inr ⟨by rfl, rfl⟩) ?_ ?_
                            rotate_left
                            · simp only [Act.put, List.setIfInBounds_toArray, List.set_cons_zero, List.set_cons_succ, i64_w, i32_w]
                              rfl
                            refine pure_ (i := 9) (N := some 40) (v := undef) (a' := ?_) #[true, true, true, true, true, true, true, true, true, true, false, false, false, false, false, false, false, false, false, false, false] rfl rfl (any_of HT_.out (by kernel_rfl)) (fun _ _ _ h => h) (Or.inr ⟨by rfl, rfl⟩) ?_ ?_
                            rotate_left
                            · simp only [Act.put, List.setIfInBounds_toArray, List.set_cons_zero, List.set_cons_succ, i64_w, i32_w]
                              rfl
                            refine pure_ (i := 10) (N := some 41) (v := ?_) (a' := ?_) #[true, true, true, true, true, true, true, true, true, true, true, false, false, false, false, false, false, false, false, false, false] rfl rfl (any_of HT_.out (by kernel_rfl)) (fun _ _ _ h => h) (Or.inl ⟨by rfl, ?_⟩) ?_ ?_
                            rotate_left
                            · intro w'
                              go_simp
                              with_reducible rfl
                            rotate_left
                            · simp only [Act.put, List.setIfInBounds_toArray, List.set_cons_zero, List.set_cons_succ, i64_w, i32_w]
                              rfl
                            refine pure_ (i := 11) (N := some 42) (v := ?_) (a' := ?_) #[true, true, true, true, true, true, true, true, true, true, true, true, false, false, false, false, false, false, false, false, false] rfl rfl (any_of HT_.out (by kernel_rfl)) (fun _ _ _ h => h) (Or.inl ⟨by rfl, ?_⟩) ?_ ?_
                            rotate_left
                            · intro w'
                              go_simp
                              with_reducible rfl
                            rotate_left
                            · simp only [Act.put, List.setIfInBounds_toArray, List.set_cons_zero, List.set_cons_succ, i64_w, i32_w]
                              rfl
                            refine pure_ (i := 12) (N := some 43) (v := undef) (a' := ?_) #[true, true, true, true, true, true, true, true, true, true, true, true, true, false, false, false, false, false, false, false, false] rfl rfl (any_of HT_.out (by kernel_rfl)) (fun _ _ _ h => h) (Or.inr ⟨by rfl, rfl⟩) ?_ ?_
                            rotate_left
                            · simp only [Act.put, List.setIfInBounds_toArray, List.set_cons_zero, List.set_cons_succ, i64_w, i32_w]
                              rfl
                            refine pure_ (i := 13) (N := some 44) (v := undef) (a' := ?_) #[true, true, true, true, true, true, true, true, true, true, true, true, true, true, false, false, false, false, false, false, false] rfl rfl (any_of HT_.out (by kernel_rfl)) (fun _ _ _ h => h) (Or.inr ⟨by rfl, rfl⟩) ?_ ?_
                            rotate_left
                            · simp only [Act.put, List.setIfInBounds_toArray, List.set_cons_zero, List.set_cons_succ, i64_w, i32_w]
                              rfl
                            refine pure_ (i := 14) (N := some 45) (v := undef) (a' := ?_) #[true, true, true, true, true, true, true, true, true, true, true, true, true, true, true, false, false, false, false, false, false] rfl rfl (any_of HT_.out (by kernel_rfl)) (fun _ _ _ h => h) (Or.inr ⟨by rfl, rfl⟩) ?_ ?_
                            rotate_left
                            · simp only [Act.put, List.setIfInBounds_toArray, List.set_cons_zero, List.set_cons_succ, i64_w, i32_w]
                              rfl
                            refine pure_ (i := 15) (N := some 46) (v := undef) (a' := ?_) #[true, true, true, true, true, true, true, true, true, true, true, true, true, true, true, true, false, false, false, false, false] rfl rfl (any_of HT_.out (by kernel_rfl)) (fun _ _ _ h => h) (Or.inr ⟨by rfl, rfl⟩) ?_ ?_
                            rotate_left
                            · simp only [Act.put, List.setIfInBounds_toArray, List.set_cons_zero, List.set_cons_succ, i64_w, i32_w]
                              rfl
                            refine pure_ (i := 16) (N := some 47) (v := undef) (a' := ?_) #[true, true, true, true, true, true, true, true, true, true, true, true, true, true, true, true, true, false, false, false, false] rfl rfl (any_of HT_.out (by kernel_rfl)) (fun _ _ _ h => h) (Or.inr ⟨by rfl, rfl⟩) ?_ ?_
                            rotate_left
                            · simp only [Act.put, List.setIfInBounds_toArray, List.set_cons_zero, List.set_cons_succ, i64_w, i32_w]
                              rfl
                            refine pure_ (i := 17) (N := some 48) (v := undef) (a' := ?_) #[true, true, true, true, true, true, true, true, true, true, true, true, true, true, true, true, true, true, false, false, false] rfl rfl (any_of HT_.out (by kernel_rfl)) (fun _ _ _ h => h) (Or.inr ⟨by rfl, rfl⟩) ?_ ?_
                            rotate_left
                            · simp only [Act.put, List.setIfInBounds_toArray, List.set_cons_zero, List.set_cons_succ, i64_w, i32_w]
                              rfl
                            refine pure_ (i := 18) (N := some 49) (v := undef) (a' := ?_) #[true, true, true, true, true, true, true, true, true, true, true, true, true, true, true, true, true, true, true, false, false] rfl rfl (any_of HT_.out (by kernel_rfl)) (fun _ _ _ h => h) (Or.inr ⟨by rfl, rfl⟩) ?_ ?_
                            rotate_left
                            · simp only [Act.put, List.setIfInBounds_toArray, List.set_cons_zero, List.set_cons_succ, i64_w, i32_w]
                              rfl
                            refine pure_ (i := 19) (N := some 50) (v := undef) (a' := ?_) #[true, true, true, true, true, true, true, true, true, true, true, true, true, true, true, true, true, true, true, true, false] rfl rfl (any_of HT_.out (by kernel_rfl)) (fun _ _ _ h => h) (Or.inr ⟨by rfl, rfl⟩) ?_ ?_
                            rotate_left
                            · simp only [Act.put, List.setIfInBounds_toArray, List.set_cons_zero, List.set_cons_succ, i64_w, i32_w]
                              rfl
                            refine pure_ (i := 20) (N := some 51) (v := ?_) (a' := ?_) #[true, true, true, true, true, true, true, true, true, true, true, true, true, true, true, true, true, true, true, true, true] rfl rfl (any_of HT_.out (by kernel_rfl)) (fun _ _ _ h => h) (Or.inl ⟨by rfl, ?_⟩) ?_ ?_
                            rotate_left
                            · intro w'
                              go_simp
                              with_reducible rfl
                            rotate_left
                            · simp only [Act.put, List.setIfInBounds_toArray, List.set_cons_zero, List.set_cons_succ, i64_w, i32_w]
                              rfl
                            refine done_ (done_of HT_.out (by kernel_rfl)) ?_
                            try go_wp2
                            go_meet
                            case rel => exact ⟨_, (false), (by first | rfl | (simp; done) | (simp [*]; done)), H', ⟨by have := HK1.out; have := HK2.out; first | omega | exact Nat.le_refl _⟩, ⟨by (with_reducible repeat (first | apply Kd.R_alloc | apply Kd.R_drewN | apply Kd.R_drew)); exact HO_7.out⟩, ⟨by (with_reducible repeat (first | refine blk_drewN ?_ _ | refine blk_drew ?_ | refine blk_alloc ?_ _)); exact BK316.out⟩, ⟨by repeat (first | (with_reducible first | exact HB.out | apply below_alloc | apply pw_below_drewN | apply below_drew1 | refine below_set ?_ GE316.out) | exact HB.out)⟩⟩
                        case rest =>
                          clear HC14
                          try clear c1
                          try clear p1
                          try clear q1
                          try clear hx1
                          try clear c2
                          try clear p2
                          try clear c3
                          try clear p3
                          try clear q3
                          try clear hx3
                          try clear c4
                          try clear c4b0
                          try clear c4b1
                          try clear c6
                          try clear c6b0
                          try clear c7
                          try clear c7b0
                          try clear c8
                          try clear c8b0
                          try clear c9
                          try clear c9b0
                          try clear c9b1
                          try clear c10
                          try clear c10b0
                          try clear c10b1
                          try clear c11
                          try clear c11b0
                          try clear c11b1
                          try clear c15
                          try clear c15b0
                          try clear c16
                          try clear c16b0
                          try clear c17
                          try clear c17b0
                          try clear p18
                          try clear q18
                          try clear hx18
                          try clear p19
                          try clear q19
                          try clear hx19
                          try clear hcz13_0
                          try clear hcz13_1
                          try clear hcz13_2
                          try clear hfz13_0
                          try clear hfz13_1
                          try clear hfz13_2
                          try clear hx315_0
                          try clear hx315_1
                          try clear hx315_2
                          try clear p18
                          try clear p19
                          try clear p2
                          try clear p3
                          try clear p315
                          try clear q18
                          try clear q19
                          try clear q3
                          try clear q315
                          obtain ⟨kq, x51_13, rfl, HA, HJ13, HO_7, BK316, HB⟩ := hcut
                          cases kq with
                          | zero => exact absurd HA.out (by simp [edits_Normal.j2])
                          | succ kj13 =>
                            have H := HA.out
                            clear HA
                            simp only [edits_Normal.j2] at H
                            try simp only [ByteArray.size_extract, Nat.min_self] at H
                            by_cases c23 : x51_13 = true
                            · subst c23
                              have H1 : (edits_Normal.l1 kj13 a0 x7_1 (a0.extract (((rd_T42 l1 x21_1).f0) : Int).toNat (((rd_T42 l1 x21_1).f1) : Int).toNat) (wrap64 (x11_2 + 1)) l1 (l1.length : Int) x21_1 ((rd_T42 l1 x21_1).f0) ((rd_T42 l1 x21_1).f1) ((rd_T42 l1 x21_1).f2)) = some (r1, r2) := by rw [if_pos rfl] at H; exact H
                              clear H
                              have H := H1
                              clear H1
                              have H' := Aside0.mk H
                              clear H
                              go_wp2
                              go_roundg kj13
                              case measure => have := HK1.out; have := HK2.out; have := HJ13.out; omega
                              case rel => exact ⟨(wrap64 (x11_2 + 1)), (by first | rfl | (simp; done) | (simp [*]; done)), H', ⟨by have := HK1.out; have := HK2.out; have := HJ13.out; omega⟩, ⟨by (with_reducible repeat (first | apply Kd.R_alloc | apply Kd.R_drewN | apply Kd.R_drew)); exact HO_7.out⟩, ⟨by (with_reducible repeat (first | refine blk_drewN ?_ _ | refine blk_drew ?_ | refine blk_alloc ?_ _)); exact BK316.out⟩, ⟨by repeat (first | (with_reducible first | exact HB.out | apply below_alloc | apply pw_below_drewN | apply below_drew1 | refine below_set ?_ GE316.out) | exact HB.out)⟩⟩
                            · replace c23 := Bool.eq_false_iff.mpr c23
                              subst c23
                              have H1 : (if 0 ≤ x11_2 then (if x11_2 ≤ ((min (((rd_T42 l1 x21_1).f1) : Int).toNat a0.size - (((rd_T42 l1 x21_1).f0) : Int).toNat : Nat) : Int) then (if x11_2 ≤ (((rd_T42 l1 x21_1).f2).size : Int) then (edits_Normal.l2 kj13 a0 x7_1 ((a0.extract (((rd_T42 l1 x21_1).f0) : Int).toNat (((rd_T42 l1 x21_1).f1) : Int).toNat).extract (x11_2 : Int).toNat (min (((rd_T42 l1 x21_1).f1) : Int).toNat a0.size - (((rd_T42 l1 x21_1).f0) : Int).toNat : Nat)) 0 l1 (l1.length : Int) x21_1 (wrap64 (((rd_T42 l1 x21_1).f0) + x11_2)) ((rd_T42 l1 x21_1).f1) (((rd_T42 l1 x21_1).f2).extract (x11_2 : Int).toNat ((rd_T42 l1 x21_1).f2).size)) else (none)) else (none)) else (none)) = some (r1, r2) := by rw [if_neg (show ¬ (false = true) by decide)] at H; exact H
                              clear H
                              have H := H1
                              clear H1
                              by_cases c24 : 0 ≤ x11_2
                              · rw [if_pos c24] at H
                                have c24b0 := eq_true c24
                                have c24b1 : decide (0 ≤ x11_2) = true := decide_eq_true c24
                                clear c24
                                by_cases c25 : x11_2 ≤ ((min (((rd_T42 l1 x21_1).f1) : Int).toNat a0.size - (((rd_T42 l1 x21_1).f0) : Int).toNat : Nat) : Int)
                                · rw [if_pos c25] at H
                                  have c25b0 := eq_true c25
                                  have c25b1 : decide (x11_2 ≤ ((min (((rd_T42 l1 x21_1).f1) : Int).toNat a0.size - (((rd_T42 l1 x21_1).f0) : Int).toNat : Nat) : Int)) = true := decide_eq_true c25
                                  try (have c25b1x := c25b1; simp only [ByteArray.size_extract, Nat.min_self] at c25b1x)
                                  try (first | have c25b1y := eq_true (of_decide_eq_true c25b1x) | have c25b1y := eq_false (of_decide_eq_false c25b1x))
                                  clear c25
                                  have c26b0 := eq_true (of_decide_eq_true (by first | (with_reducible assumption) | assumption) : 0 ≤ x11_2)
                                  by_cases c27 : x11_2 ≤ (((rd_T42 l1 x21_1).f2).size : Int)
                                  · rw [if_pos c27] at H
                                    have c27b0 := eq_true c27
                                    have c27b1 : decide (x11_2 ≤ (((rd_T42 l1 x21_1).f2).size : Int)) = true := decide_eq_true c27
                                    clear c27
                                    have H' := Aside0.mk H
                                    clear H
                                    try go_wp2
                                    have n0_ := Aside0.mk (Kd.R_drew HO_7.out)
                                    have n1_ := Aside0.mk (blk_drew BK316.out)
                                    have n2_ := Aside0.mk (below_drew1 HB.out)
                                    clear HO_7
                                    clear BK316
                                    clear HB
                                    have HO_7 := n0_
                                    have BK316 := n1_
                                    have HB := n2_
                                    clear n0_ n1_ n2_
                                    refine start_ (n := 10) (S := fun w' => w'.cell? ⟨gb316, 0, none⟩ = some (.int .i64 ((rd_T42 l1 x21_1).f0)) ∧ w'.cell? ⟨gb316, 1, none⟩ = some (.int .i64 ((rd_T42 l1 x21_1).f1)) ∧ w'.cell? ⟨gb316, 2, none⟩ = some (.string ((rd_T42 l1 x21_1).f2))) (ds := [9]) #[false, false, false, false, false, false, false, false, false, false] (by kernel_rfl) rfl rfl ⟨(blk_cell BK316.out 0).trans rfl, (blk_cell BK316.out 1).trans rfl, (blk_cell BK316.out 2).trans rfl⟩ (fun hHeld => ?_); refine with_tabW edits_Normal.tab12 edits_Normal.bits12 (fun HT_ HW_ => ?_)
                                    generalize wc.drew = w28 at HO_7 BK316 HB hHeld ⊢
                                    refine pure_ (i := 0) (N := some 54) (v := ?_) (a' := ?_) #[true, false, false, false, false, false, false, false, false, false] rfl rfl (any_of HT_.out (by kernel_rfl)) (fun _ _ _ h => h) (Or.inl ⟨by rfl, ?_⟩) ?_ ?_
                                    rotate_left
                                    · intro w'
                                      go_simp
                                      with_reducible rfl
                                    rotate_left
                                    · simp only [Act.put, List.setIfInBounds_toArray, List.set_cons_zero, List.set_cons_succ, i64_w, i32_w]
                                      rfl
                                    refine pure_ (i := 1) (N := some 55) (v := ?_) (a' := ?_) #[true, true, false, false, false, false, false, false, false, false] rfl rfl (any_of HT_.out (by kernel_rfl)) (fun _ _ _ h => h) (Or.inl ⟨by rfl, ?_⟩) ?_ ?_
                                    rotate_left
                                    · intro w'
                                      go_simp
                                      with_reducible rfl
                                    rotate_left
                                    · simp only [Act.put, List.setIfInBounds_toArray, List.set_cons_zero, List.set_cons_succ, i64_w, i32_w]
                                      rfl
                                    refine pure_ (i := 2) (N := some 56) (v := ?_) (a' := ?_) #[true, true, true, false, false, false, false, false, false, false] rfl rfl (any_of HT_.out (by kernel_rfl)) (fun _ _ _ h => h) (Or.inl ⟨by rfl, ?_⟩) ?_ ?_
                                    rotate_left
                                    · intro w'
                                      go_simp
                                      with_reducible rfl
                                    rotate_left
                                    · simp only [Act.put, List.setIfInBounds_toArray, List.set_cons_zero, List.set_cons_succ, i64_w, i32_w]
                                      rfl
                                    refine pure_ (i := 3) (N := some 57) (v := ?_) (a' := ?_) #[true, true, true, true, false, false, false, false, false, false] rfl rfl (any_of HT_.out (by kernel_rfl)) (fun _ _ _ h => h) (Or.inl ⟨by rfl, ?_⟩) ?_ ?_
                                    rotate_left
                                    · intro w'
                                      go_simp
                                      with_reducible rfl
                                    rotate_left
                                    · simp only [Act.put, List.setIfInBounds_toArray, List.set_cons_zero, List.set_cons_succ, i64_w, i32_w]
                                      rfl
                                    refine pure_ (i := 5) (N := some 59) (v := ?_) (a' := ?_) #[true, true, true, true, false, true, false, false, false, false] rfl rfl (any_of HT_.out (by kernel_rfl)) (fun _ _ _ h => h) (Or.inl ⟨by rfl, ?_⟩) ?_ ?_
                                    rotate_left
                                    · intro w'
                                      go_simp
                                      with_reducible rfl
                                    rotate_left
                                    · simp only [Act.put, List.setIfInBounds_toArray, List.set_cons_zero, List.set_cons_succ, i64_w, i32_w]
                                      rfl
                                    refine pure_ (i := 7) (N := some 10) (v := ?_) (a' := ?_) #[true, true, true, true, false, true, false, true, false, false] rfl rfl (any_of HT_.out (by kernel_rfl)) (fun _ _ _ h => h) (Or.inl ⟨by rfl, ?_⟩) ?_ ?_
                                    rotate_left
                                    · intro w'
                                      go_simp
                                      with_reducible rfl
                                    rotate_left
                                    · simp only [Act.put, List.setIfInBounds_toArray, List.set_cons_zero, List.set_cons_succ, i64_w, i32_w]
                                      rfl
                                    refine take_ (i := 4) (N := some 58) (v := ?_) (a' := ?_) #[true, true, true, true, true, true, false, true, false, false] rfl rfl (take_ofW HT_.out HW_.out (by kernel_rfl)) (fun _ _ _ h => h) (Or.inl ⟨by rfl, ?_⟩) hHeld ?_ ?_
                                    rotate_left
                                    · rintro w' ⟨s0, s1, s2⟩
                                      go_simp
                                      with_reducible rfl
                                    rotate_left
                                    · simp only [Act.put, List.setIfInBounds_toArray, List.set_cons_zero, List.set_cons_succ, i64_w, i32_w]
                                      rfl
                                    refine pure_ (i := 6) (N := some 60) (v := ?_) (a' := ?_) #[true, true, true, true, true, true, true, true, false, false] rfl rfl (any_of HT_.out (by kernel_rfl)) (fun _ _ _ h => h) (Or.inl ⟨by rfl, ?_⟩) ?_ ?_
                                    rotate_left
                                    · intro w'
                                      go_simp
                                      with_reducible rfl
                                    rotate_left
                                    · simp only [Act.put, List.setIfInBounds_toArray, List.set_cons_zero, List.set_cons_succ, i64_w, i32_w]
                                      rfl
                                    refine pure_ (i := 8) (N := some 61) (v := ?_) (a' := ?_) #[true, true, true, true, true, true, true, true, true, false] rfl rfl (any_of HT_.out (by kernel_rfl)) (fun _ _ _ h => h) (Or.inl ⟨by rfl, ?_⟩) ?_ ?_
                                    rotate_left
                                    · intro w'
                                      go_simp
                                      with_reducible rfl
                                    rotate_left
                                    · simp only [Act.put, List.setIfInBounds_toArray, List.set_cons_zero, List.set_cons_succ, i64_w, i32_w]
                                      rfl
                                    refine last_ (i := 9) (N := none) #[true, true, true, true, true, true, true, true, true, true] rfl rfl (one_of HT_.out (by kernel_rfl)) (by decide) (fun K hK => ?_)
                                    have hs29 : w28.cell? ⟨gb316, 2, none⟩ = some (.string ((rd_T42 l1 x21_1).f2)) := (blk_cell BK316.out 2).trans rfl
                                    have hfs29 := blk_frozen BK316.out 2
                                    refine skip_ (w1 := ?_) (by rfl) rfl ?_ ?_
                                    rotate_left
                                    · go_simp
                                      rfl
                                    refine hK.out _ _ ?_
                                    clear hK K
                                    refine done_ (done_of HT_.out (by kernel_rfl)) ?_
                                    have hcz30_0 : w28.cell? ⟨gb316, 0, none⟩ = some (.int .i64 ((rd_T42 l1 x21_1).f0)) := (blk_cell BK316.out 0).trans rfl
                                    have hcz30_1 : w28.cell? ⟨gb316, 1, none⟩ = some (.int .i64 ((rd_T42 l1 x21_1).f1)) := (blk_cell BK316.out 1).trans rfl
                                    have hcz30_2 : w28.cell? ⟨gb316, 2, none⟩ = some (.string ((rd_T42 l1 x21_1).f2)) := (blk_cell BK316.out 2).trans rfl
                                    have hfz30_0 := blk_frozen BK316.out 0
                                    have hfz30_1 := blk_frozen BK316.out 1
                                    have hfz30_2 := blk_frozen BK316.out 2
                                    try go_wp2
                                    go_loopg [11] kj13 (fun kq v11 w' => ∃ (x11_4 : Int), v11 = .int .i64 x11_4 ∧ Aside0 (edits_Normal.l2 kq a0 x7_1 ((a0.extract (((rd_T42 l1 x21_1).f0) : Int).toNat (((rd_T42 l1 x21_1).f1) : Int).toNat).extract (x11_2 : Int).toNat (min (((rd_T42 l1 x21_1).f1) : Int).toNat a0.size - (((rd_T42 l1 x21_1).f0) : Int).toNat : Nat)) x11_4 l1 (l1.length : Int) x21_1 (wrap64 (((rd_T42 l1 x21_1).f0) + x11_2)) ((rd_T42 l1 x21_1).f1) (((rd_T42 l1 x21_1).f2).extract (x11_2 : Int).toNat ((rd_T42 l1 x21_1).f2).size) = some (r1, r2)) ∧ Aside0 (kq ≤ kj13) ∧ Aside0 (Kd.R k42 42 w' w.heap.size (fun k_ => k_ ≠ gb316) u7 x7_1) ∧ Aside0 (w'.heap[gb316]? = some (.cells #[.int .i64 (wrap64 (((rd_T42 l1 x21_1).f0) + x11_2)), .int .i64 ((rd_T42 l1 x21_1).f1), .string (((rd_T42 l1 x21_1).f2).extract (x11_2 : Int).toNat ((rd_T42 l1 x21_1).f2).size)] 42 (0, 0))) ∧ Aside0 (Below w.heap.size w w'))
                                    case atStart => exact ⟨(0), (by first | rfl | (simp; done) | (simp [*]; done)), H', ⟨Nat.le_refl _⟩, ⟨by (with_reducible repeat (first | apply Kd.R_alloc | apply Kd.R_drewN | apply Kd.R_drew)); exact Kd.R_mono (Kd.R_far (p := ⟨gb316, 0, none⟩) (Kd.R_far (p := ⟨gb316, 2, none⟩) (Kd.R_mono HO_7.out (fun k_ hk => (⟨hk, hk⟩ : _ ∧ k_ ≠ gb316))) (fun _ hk => hk.2) (.string (((rd_T42 l1 x21_1).f2).extract (x11_2 : Int).toNat ((rd_T42 l1 x21_1).f2).size))) (fun _ hk => hk.2) (.int .i64 (wrap64 (((rd_T42 l1 x21_1).f0) + x11_2)))) (fun _ hk => hk.1)⟩, ⟨by (with_reducible repeat (first | refine blk_drewN ?_ _ | refine blk_drew ?_ | refine blk_alloc ?_ _)); refine blk_put (cs := #[.int .i64 ((rd_T42 l1 x21_1).f0), .int .i64 ((rd_T42 l1 x21_1).f1), .string (((rd_T42 l1 x21_1).f2).extract (x11_2 : Int).toNat ((rd_T42 l1 x21_1).f2).size)]) ?_ 0 _ rfl; (with_reducible repeat (first | refine blk_drewN ?_ _ | refine blk_drew ?_ | refine blk_alloc ?_ _)); refine blk_put (cs := #[.int .i64 ((rd_T42 l1 x21_1).f0), .int .i64 ((rd_T42 l1 x21_1).f1), .string ((rd_T42 l1 x21_1).f2)]) ?_ 2 _ rfl; (with_reducible repeat (first | refine blk_drewN ?_ _ | refine blk_drew ?_ | refine blk_alloc ?_ _)); exact BK316.out⟩, ⟨by repeat (first | (with_reducible first | exact HB.out | apply below_alloc | apply pw_below_drewN | apply below_drew1 | refine below_set ?_ GE316.out) | exact HB.out)⟩⟩
                                    case round =>
                                      clear H'
                                      try clear c1
                                      try clear p1
                                      try clear q1
                                      try clear hx1
                                      try clear c2
                                      try clear p2
                                      try clear c3
                                      try clear p3
                                      try clear q3
                                      try clear hx3
                                      try clear c4
                                      try clear c4b0
                                      try clear c4b1
                                      try clear c6
                                      try clear c6b0
                                      try clear p6
                                      try clear c7
                                      try clear c7b0
                                      try clear c8
                                      try clear c8b0
                                      try clear c9
                                      try clear c9b0
                                      try clear c9b1
                                      try clear c10
                                      try clear c10b0
                                      try clear c10b1
                                      try clear c11
                                      try clear c11b0
                                      try clear c11b1
                                      try clear c15
                                      try clear c15b0
                                      try clear c16
                                      try clear c16b0
                                      try clear c17
                                      try clear c17b0
                                      try clear p18
                                      try clear q18
                                      try clear hx18
                                      try clear p19
                                      try clear q19
                                      try clear hx19
                                      try clear c23
                                      try clear c24
                                      try clear c24b0
                                      try clear c24b1
                                      try clear c25
                                      try clear c25b0
                                      try clear c25b1
                                      try clear c26
                                      try clear c26b0
                                      try clear c27
                                      try clear c27b0
                                      try clear c27b1
                                      try clear hcz13_0
                                      try clear hcz13_1
                                      try clear hcz13_2
                                      try clear hcz30_0
                                      try clear hcz30_1
                                      try clear hcz30_2
                                      try clear hfz13_0
                                      try clear hfz13_1
                                      try clear hfz13_2
                                      try clear hfz30_0
                                      try clear hfz30_1
                                      try clear hfz30_2
                                      try clear hx315_0
                                      try clear hx315_1
                                      try clear hx315_2
                                      try clear p1
                                      try clear p18
                                      try clear p19
                                      try clear p2
                                      try clear p3
                                      try clear p315
                                      try clear q1
                                      try clear q18
                                      try clear q19
                                      try clear q3
                                      try clear q315
                                      obtain ⟨x11_4, rfl, HA, HK4, HO_7, BK316, HB⟩ := hrel
                                      cases gk with
                                      | zero => exact absurd HA.out (by simp [edits_Normal.l2])
                                      | succ k4 =>
                                        have H := HA.out
                                        clear HA
                                        simp only [edits_Normal.l2] at H
                                        try simp only [ByteArray.size_extract, Nat.min_self] at H
                                        have HC31 := Aside0.mk H
                                        clear H
                                        go_upto_region 15 with (fail)
                                        go_cut [96] (fun v96 wc => ∃ (kq : Nat) (x96_30 : Bool), v96 = .bool x96_30 ∧ Aside0 (edits_Normal.j4 kq a0 x7_1 ((a0.extract (((rd_T42 l1 x21_1).f0) : Int).toNat (((rd_T42 l1 x21_1).f1) : Int).toNat).extract (x11_2 : Int).toNat (min (((rd_T42 l1 x21_1).f1) : Int).toNat a0.size - (((rd_T42 l1 x21_1).f0) : Int).toNat : Nat)) x11_4 l1 (l1.length : Int) x21_1 x96_30 (wrap64 (((rd_T42 l1 x21_1).f0) + x11_2)) ((rd_T42 l1 x21_1).f1) (((rd_T42 l1 x21_1).f2).extract (x11_2 : Int).toNat ((rd_T42 l1 x21_1).f2).size) = some (r1, r2)) ∧ Aside0 (kq ≤ k4) ∧ Aside0 (Kd.R k42 42 wc w.heap.size (fun k_ => k_ ≠ gb316) u7 x7_1) ∧ Aside0 (wc.heap[gb316]? = some (.cells #[.int .i64 (wrap64 (((rd_T42 l1 x21_1).f0) + x11_2)), .int .i64 ((rd_T42 l1 x21_1).f1), .string (((rd_T42 l1 x21_1).f2).extract (x11_2 : Int).toNat ((rd_T42 l1 x21_1).f2).size)] 42 (0, 0))) ∧ Aside0 (Below w.heap.size w wc))
                                        case first =>
                                          have H := HC31.out
                                          clear HC31
                                          by_cases c32 : x11_4 < (((min (((rd_T42 l1 x21_1).f1) : Int).toNat a0.size - (((rd_T42 l1 x21_1).f0) : Int).toNat : Nat) - (x11_2 : Int).toNat : Nat) : Int)
                                          · rw [if_pos c32] at H
                                            have c32b0 : decide (x11_4 < (((min (((rd_T42 l1 x21_1).f1) : Int).toNat a0.size - (((rd_T42 l1 x21_1).f0) : Int).toNat : Nat) - (x11_2 : Int).toNat : Nat) : Int)) = true := decide_eq_true c32
                                            try (have c32b0x := c32b0; simp only [ByteArray.size_extract, Nat.min_self] at c32b0x)
                                            try (first | have c32b0y := eq_true (of_decide_eq_true c32b0x) | have c32b0y := eq_false (of_decide_eq_false c32b0x))
                                            clear c32
                                            (first | rw [c32b0] | (simp only [i64_w, i32_w]; rw [c32b0]) | skip)
                                            by_cases c33 : x11_4 < ((((rd_T42 l1 x21_1).f2).size - (x11_2 : Int).toNat : Nat) : Int)
                                            · rw [if_pos c33] at H
                                              have c33b0 : decide (x11_4 < ((((rd_T42 l1 x21_1).f2).size - (x11_2 : Int).toNat : Nat) : Int)) = true := decide_eq_true c33
                                              try (have c33b0x := c33b0; simp only [ByteArray.size_extract, Nat.min_self] at c33b0x)
                                              try (first | have c33b0y := eq_true (of_decide_eq_true c33b0x) | have c33b0y := eq_false (of_decide_eq_false c33b0x))
                                              clear c33
                                              obtain ⟨ji34, hji34⟩ : ∃ j_ : Int, (wrap64 ((wrap64 ((((min (((rd_T42 l1 x21_1).f1) : Int).toNat a0.size - (((rd_T42 l1 x21_1).f0) : Int).toNat : Nat) - (x11_2 : Int).toNat : Nat) : Int) - 1)) - x11_4)) = j_ := ⟨_, rfl⟩
                                              replace H : (if 0 ≤ (ji34) then (if (ji34) < (((min (((rd_T42 l1 x21_1).f1) : Int).toNat a0.size - (((rd_T42 l1 x21_1).f0) : Int).toNat : Nat) - (x11_2 : Int).toNat : Nat) : Int) then (if 0 ≤ (wrap64 ((wrap64 (((((rd_T42 l1 x21_1).f2).size - (x11_2 : Int).toNat : Nat) : Int) - 1)) - x11_4)) then (if (wrap64 ((wrap64 (((((rd_T42 l1 x21_1).f2).size - (x11_2 : Int).toNat : Nat) : Int) - 1)) - x11_4)) < ((((rd_T42 l1 x21_1).f2).size - (x11_2 : Int).toNat : Nat) : Int) then (edits_Normal.j4 k4 a0 x7_1 ((a0.extract (((rd_T42 l1 x21_1).f0) : Int).toNat (((rd_T42 l1 x21_1).f1) : Int).toNat).extract (x11_2 : Int).toNat (min (((rd_T42 l1 x21_1).f1) : Int).toNat a0.size - (((rd_T42 l1 x21_1).f0) : Int).toNat : Nat)) x11_4 l1 (l1.length : Int) x21_1 ((bt ((a0.extract (((rd_T42 l1 x21_1).f0) : Int).toNat (((rd_T42 l1 x21_1).f1) : Int).toNat).extract (x11_2 : Int).toNat (min (((rd_T42 l1 x21_1).f1) : Int).toNat a0.size - (((rd_T42 l1 x21_1).f0) : Int).toNat : Nat)) (ji34)) == (bt (((rd_T42 l1 x21_1).f2).extract (x11_2 : Int).toNat ((rd_T42 l1 x21_1).f2).size) (wrap64 ((wrap64 (((((rd_T42 l1 x21_1).f2).size - (x11_2 : Int).toNat : Nat) : Int) - 1)) - x11_4)))) (wrap64 (((rd_T42 l1 x21_1).f0) + x11_2)) ((rd_T42 l1 x21_1).f1) (((rd_T42 l1 x21_1).f2).extract (x11_2 : Int).toNat ((rd_T42 l1 x21_1).f2).size)) else (none)) else (none)) else (none)) else (none)) = some (r1, r2) := by first | (rw [hji34] at H; exact H) | (simp only [hji34] at H ⊢; exact H)
                                              have hji34w : (IntKind.i64.wrap ((wrap64 ((((min (((rd_T42 l1 x21_1).f1) : Int).toNat a0.size - (((rd_T42 l1 x21_1).f0) : Int).toNat : Nat) - (x11_2 : Int).toNat : Nat) : Int) - 1)) - x11_4)) = ji34 := (i64_w _).trans hji34
                                              by_cases c35 : 0 ≤ (ji34)
                                              · rw [if_pos c35] at H
                                                have c35b0 : decide (0 ≤ (ji34)) = true := decide_eq_true c35
                                                clear c35
                                                by_cases c36 : (ji34) < (((min (((rd_T42 l1 x21_1).f1) : Int).toNat a0.size - (((rd_T42 l1 x21_1).f0) : Int).toNat : Nat) - (x11_2 : Int).toNat : Nat) : Int)
                                                · rw [if_pos c36] at H
                                                  have c36b0 : decide ((ji34) < (((min (((rd_T42 l1 x21_1).f1) : Int).toNat a0.size - (((rd_T42 l1 x21_1).f0) : Int).toNat : Nat) - (x11_2 : Int).toNat : Nat) : Int)) = true := decide_eq_true c36
                                                  try (have c36b0x := c36b0; simp only [ByteArray.size_extract, Nat.min_self] at c36b0x)
                                                  try (first | have c36b0y := eq_true (of_decide_eq_true c36b0x) | have c36b0y := eq_false (of_decide_eq_false c36b0x))
                                                  clear c36
                                                  obtain ⟨ji38, hji38⟩ : ∃ j_ : Int, (wrap64 ((wrap64 (((((rd_T42 l1 x21_1).f2).size - (x11_2 : Int).toNat : Nat) : Int) - 1)) - x11_4)) = j_ := ⟨_, rfl⟩
                                                  replace H : (if 0 ≤ (ji38) then (if (ji38) < ((((rd_T42 l1 x21_1).f2).size - (x11_2 : Int).toNat : Nat) : Int) then (edits_Normal.j4 k4 a0 x7_1 ((a0.extract (((rd_T42 l1 x21_1).f0) : Int).toNat (((rd_T42 l1 x21_1).f1) : Int).toNat).extract (x11_2 : Int).toNat (min (((rd_T42 l1 x21_1).f1) : Int).toNat a0.size - (((rd_T42 l1 x21_1).f0) : Int).toNat : Nat)) x11_4 l1 (l1.length : Int) x21_1 ((bt ((a0.extract (((rd_T42 l1 x21_1).f0) : Int).toNat (((rd_T42 l1 x21_1).f1) : Int).toNat).extract (x11_2 : Int).toNat (min (((rd_T42 l1 x21_1).f1) : Int).toNat a0.size - (((rd_T42 l1 x21_1).f0) : Int).toNat : Nat)) (ji34)) == (bt (((rd_T42 l1 x21_1).f2).extract (x11_2 : Int).toNat ((rd_T42 l1 x21_1).f2).size) (ji38))) (wrap64 (((rd_T42 l1 x21_1).f0) + x11_2)) ((rd_T42 l1 x21_1).f1) (((rd_T42 l1 x21_1).f2).extract (x11_2 : Int).toNat ((rd_T42 l1 x21_1).f2).size)) else (none)) else (none)) = some (r1, r2) := by first | (rw [hji38] at H; exact H) | (simp only [hji38] at H ⊢; exact H)
                                                  have hji38w : (IntKind.i64.wrap ((wrap64 (((((rd_T42 l1 x21_1).f2).size - (x11_2 : Int).toNat : Nat) : Int) - 1)) - x11_4)) = ji38 := (i64_w _).trans hji38
                                                  by_cases c39 : 0 ≤ (ji38)
                                                  · rw [if_pos c39] at H
                                                    have c39b0 : decide (0 ≤ (ji38)) = true := decide_eq_true c39
                                                    clear c39
                                                    by_cases c40 : (ji38) < ((((rd_T42 l1 x21_1).f2).size - (x11_2 : Int).toNat : Nat) : Int)
                                                    · rw [if_pos c40] at H
                                                      have c40b0 : decide ((ji38) < ((((rd_T42 l1 x21_1).f2).size - (x11_2 : Int).toNat : Nat) : Int)) = true := decide_eq_true c40
                                                      try (have c40b0x := c40b0; simp only [ByteArray.size_extract, Nat.min_self] at c40b0x)
                                                      try (first | have c40b0y := eq_true (of_decide_eq_true c40b0x) | have c40b0y := eq_false (of_decide_eq_false c40b0x))
                                                      clear c40
                                                      have H' := Aside0.mk H
                                                      clear H
                                                      try go_wp2
                                                      have n0_ := Aside0.mk (Kd.R_drew HO_7.out)
                                                      have n1_ := Aside0.mk (blk_drew BK316.out)
                                                      have n2_ := Aside0.mk (below_drew1 HB.out)
                                                      clear HO_7
                                                      clear BK316
                                                      clear HB
                                                      have HO_7 := n0_
                                                      have BK316 := n1_
                                                      have HB := n2_
                                                      clear n0_ n1_ n2_
                                                      have p37 : 0 ≤ ((ji34) : Int) := of_decide_eq_true (by first | (with_reducible assumption) | assumption)
                                                      have q37 : (ji34) < (((min (((rd_T42 l1 x21_1).f1) : Int).toNat a0.size - (((rd_T42 l1 x21_1).f0) : Int).toNat : Nat) - (x11_2 : Int).toNat : Nat) : Int) := of_decide_eq_true (by first | (with_reducible assumption) | assumption)
                                                      have hx37 := bt_at ((a0.extract (((rd_T42 l1 x21_1).f0) : Int).toNat (((rd_T42 l1 x21_1).f1) : Int).toNat).extract (x11_2 : Int).toNat (min (((rd_T42 l1 x21_1).f1) : Int).toNat a0.size - (((rd_T42 l1 x21_1).f0) : Int).toNat : Nat)) (ji34)
                                                      replace p37 := eq_true p37
                                                      replace q37 := eq_true q37
                                                      have p41 : 0 ≤ ((ji38) : Int) := of_decide_eq_true (by first | (with_reducible assumption) | assumption)
                                                      have q41 : (ji38) < ((((rd_T42 l1 x21_1).f2).size - (x11_2 : Int).toNat : Nat) : Int) := of_decide_eq_true (by first | (with_reducible assumption) | assumption)
                                                      have hx41 := bt_at (((rd_T42 l1 x21_1).f2).extract (x11_2 : Int).toNat ((rd_T42 l1 x21_1).f2).size) (ji38)
                                                      replace p41 := eq_true p41
                                                      replace q41 := eq_true q41
                                                      refine start_ (n := 30) (S := fun w' => w'.cell? ⟨gb316, 0, none⟩ = some (.int .i64 (wrap64 (((rd_T42 l1 x21_1).f0) + x11_2))) ∧ w'.cell? ⟨gb316, 1, none⟩ = some (.int .i64 ((rd_T42 l1 x21_1).f1)) ∧ w'.cell? ⟨gb316, 2, none⟩ = some (.string (((rd_T42 l1 x21_1).f2).extract (x11_2 : Int).toNat ((rd_T42 l1 x21_1).f2).size))) (ds := []) #[false, false, false, false, false, false, false, false, false, false, false, false, false, false, false, false, false, false, false, false, false, false, false, false, false, false, false, false, false, false] (by kernel_rfl) rfl rfl ⟨(blk_cell BK316.out 0).trans rfl, (blk_cell BK316.out 1).trans rfl, (blk_cell BK316.out 2).trans rfl⟩ (fun hHeld => ?_); refine with_tabW edits_Normal.tab15 edits_Normal.bits15 (fun HT_ HW_ => ?_)
                                                      generalize wr.drew = w42 at HO_7 BK316 HB hHeld ⊢
                                                      refine pure_ (i := 0) (N := some 67) (v := ?_) (a' := ?_) #[true, false, false, false, false, false, false, false, false, false, false, false, false, false, false, false, false, false, false, false, false, false, false, false, false, false, false, false, false, false] rfl rfl (any_of HT_.out (by kernel_rfl)) (fun _ _ _ h => h) (Or.inl ⟨by rfl, ?_⟩) ?_ ?_
                                                      rotate_left
                                                      · intro w'
                                                        go_simp
                                                        with_reducible rfl
                                                      rotate_left
                                                      · simp only [Act.put, List.setIfInBounds_toArray, List.set_cons_zero, List.set_cons_succ, i64_w, i32_w]
                                                        rfl
                                                      refine pure_ (i := 1) (N := some 68) (v := ?_) (a' := ?_) #[true, true, false, false, false, false, false, false, false, false, false, false, false, false, false, false, false, false, false, false, false, false, false, false, false, false, false, false, false, false] rfl rfl (any_of HT_.out (by kernel_rfl)) (fun _ _ _ h => h) (Or.inl ⟨by rfl, ?_⟩) ?_ ?_
                                                      rotate_left
                                                      · intro w'
                                                        go_simp
                                                        with_reducible rfl
                                                      rotate_left
                                                      · simp only [Act.put, List.setIfInBounds_toArray, List.set_cons_zero, List.set_cons_succ, i64_w, i32_w]
                                                        rfl
                                                      refine pure_ (i := 2) (N := some 69) (v := ?_) (a' := ?_) #[true, true, true, false, false, false, false, false, false, false, false, false, false, false, false, false, false, false, false, false, false, false, false, false, false, false, false, false, false, false] rfl rfl (any_of HT_.out (by kernel_rfl)) (fun _ _ _ h => h) (Or.inl ⟨by rfl, ?_⟩) ?_ ?_
                                                      rotate_left
                                                      · intro w'
                                                        go_simp
                                                        with_reducible rfl
                                                      rotate_left
                                                      · simp only [Act.put, List.setIfInBounds_toArray, List.set_cons_zero, List.set_cons_succ, i64_w, i32_w]
                                                        rfl
                                                      refine pure_ (i := 3) (N := some 70) (v := ?_) (a' := ?_) #[true, true, true, true, false, false, false, false, false, false, false, false, false, false, false, false, false, false, false, false, false, false, false, false, false, false, false, false, false, false] rfl rfl (any_of HT_.out (by kernel_rfl)) (fun _ _ _ h => h) (Or.inl ⟨by rfl, ?_⟩) ?_ ?_
                                                      rotate_left
                                                      · intro w'
                                                        go_simp
                                                        with_reducible rfl
                                                      rotate_left
                                                      · simp only [Act.put, List.setIfInBounds_toArray, List.set_cons_zero, List.set_cons_succ, i64_w, i32_w]
                                                        rfl
                                                      refine pure_ (i := 4) (N := some 71) (v := ?_) (a' := ?_) #[true, true, true, true, true, false, false, false, false, false, false, false, false, false, false, false, false, false, false, false, false, false, false, false, false, false, false, false, false, false] rfl rfl (any_of HT_.out (by kernel_rfl)) (fun _ _ _ h => h) (Or.inl ⟨by rfl, ?_⟩) ?_ ?_
                                                      rotate_left
                                                      · intro w'
                                                        go_simp
                                                        with_reducible rfl
                                                      rotate_left
                                                      · simp only [Act.put, List.setIfInBounds_toArray, List.set_cons_zero, List.set_cons_succ, i64_w, i32_w]
                                                        rfl
                                                      refine pure_ (i := 5) (N := some 72) (v := ?_) (a' := ?_) #[true, true, true, true, true, true, false, false, false, false, false, false, false, false, false, false, false, false, false, false, false, false, false, false, false, false, false, false, false, false] rfl rfl (any_of HT_.out (by kernel_rfl)) (fun _ _ _ h => h) (Or.inl ⟨by rfl, ?_⟩) ?_ ?_
                                                      rotate_left
                                                      · intro w'
                                                        go_simp
                                                        with_reducible rfl
                                                      rotate_left
                                                      · simp only [Act.put, List.setIfInBounds_toArray, List.set_cons_zero, List.set_cons_succ, i64_w, i32_w]
                                                        rfl
                                                      refine pure_ (i := 6) (N := some 73) (v := ?_) (a' := ?_) #[true, true, true, true, true, true, true, false, false, false, false, false, false, false, false, false, false, false, false, false, false, false, false, false, false, false, false, false, false, false] rfl rfl (any_of HT_.out (by kernel_rfl)) (fun _ _ _ h => h) (Or.inl ⟨by rfl, ?_⟩) ?_ ?_
                                                      rotate_left
                                                      · intro w'
                                                        go_simp
                                                        with_reducible rfl
                                                      rotate_left
                                                      · simp only [Act.put, List.setIfInBounds_toArray, List.set_cons_zero, List.set_cons_succ, i64_w, i32_w]
                                                        rfl
                                                      refine take_ (i := 7) (N := some 74) (v := ?_) (a' := ?_) #[true, true, true, true, true, true, true, true, false, false, false, false, false, false, false, false, false, false, false, false, false, false, false, false, false, false, false, false, false, false] rfl rfl (take_ofW HT_.out HW_.out (by kernel_rfl)) (fun _ _ _ h => h) (Or.inl ⟨by rfl, ?_⟩) hHeld ?_ ?_
                                                      rotate_left
                                                      · rintro w' ⟨s0, s1, s2⟩
                                                        go_simp
                                                        with_reducible rfl
                                                      rotate_left
                                                      · simp only [Act.put, List.setIfInBounds_toArray, List.set_cons_zero, List.set_cons_succ, i64_w, i32_w]
                                                        rfl
                                                      refine pure_ (i := 8) (N := some 75) (v := ?_) (a' := ?_) #[true, true, true, true, true, true, true, true, true, false, false, false, false, false, false, false, false, false, false, false, false, false, false, false, false, false, false, false, false, false] rfl rfl (any_of HT_.out (by kernel_rfl)) (fun _ _ _ h => h) (Or.inl ⟨by rfl, ?_⟩) ?_ ?_
                                                      rotate_left
                                                      · intro w'
                                                        go_simp
                                                        with_reducible rfl
                                                      rotate_left
                                                      · simp only [Act.put, List.setIfInBounds_toArray, List.set_cons_zero, List.set_cons_succ, i64_w, i32_w]
                                                        rfl
                                                      refine pure_ (i := 9) (N := some 76) (v := ?_) (a' := ?_) #[true, true, true, true, true, true, true, true, true, true, false, false, false, false, false, false, false, false, false, false, false, false, false, false, false, false, false, false, false, false] rfl rfl (any_of HT_.out (by kernel_rfl)) (fun _ _ _ h => h) (Or.inl ⟨by rfl, ?_⟩) ?_ ?_
                                                      rotate_left
                                                      · intro w'
                                                        go_simp
                                                        with_reducible rfl
                                                      rotate_left
                                                      · simp only [Act.put, List.setIfInBounds_toArray, List.set_cons_zero, List.set_cons_succ, i64_w, i32_w]
                                                        rfl
                                                      refine pure_ (i := 10) (N := some 77) (v := ?_) (a' := ?_) #[true, true, true, true, true, true, true, true, true, true, true, false, false, false, false, false, false, false, false, false, false, false, false, false, false, false, false, false, false, false] rfl rfl (any_of HT_.out (by kernel_rfl)) (fun _ _ _ h => h) (Or.inl ⟨by rfl, ?_⟩) ?_ ?_
                                                      rotate_left
                                                      · intro w'
                                                        go_simp
                                                        with_reducible rfl
                                                      rotate_left
                                                      · simp only [Act.put, List.setIfInBounds_toArray, List.set_cons_zero, List.set_cons_succ, i64_w, i32_w]
                                                        rfl
                                                      refine pure_ (i := 11) (N := some 78) (v := ?_) (a' := ?_) #[true, true, true, true, true, true, true, true, true, true, true, true, false, false, false, false, false, false, false, false, false, false, false, false, false, false, false, false, false, false] rfl rfl (any_of HT_.out (by kernel_rfl)) (fun _ _ _ h => h) (Or.inl ⟨by rfl, ?_⟩) ?_ ?_
                                                      rotate_left
                                                      · intro w'
                                                        go_simp
                                                        with_reducible rfl
                                                      rotate_left
                                                      · simp only [Act.put, List.setIfInBounds_toArray, List.set_cons_zero, List.set_cons_succ, i64_w, i32_w]
                                                        rfl
                                                      refine pure_ (i := 12) (N := some 79) (v := ?_) (a' := ?_) #[true, true, true, true, true, true, true, true, true, true, true, true, true, false, false, false, false, false, false, false, false, false, false, false, false, false, false, false, false, false] rfl rfl (any_of HT_.out (by kernel_rfl)) (fun _ _ _ h => h) (Or.inl ⟨by rfl, ?_⟩) ?_ ?_
                                                      rotate_left
                                                      · intro w'
                                                        go_simp
                                                        with_reducible rfl
                                                      rotate_left
                                                      · simp only [Act.put, List.setIfInBounds_toArray, List.set_cons_zero, List.set_cons_succ, i64_w, i32_w]
                                                        rfl
                                                      refine pure_ (i := 13) (N := some 80) (v := ?_) (a' := ?_) #[true, true, true, true, true, true, true, true, true, true, true, true, true, true, false, false, false, false, false, false, false, false, false, false, false, false, false, false, false, false] rfl rfl (any_of HT_.out (by kernel_rfl)) (fun _ _ _ h => h) (Or.inl ⟨by rfl, ?_⟩) ?_ ?_
                                                      rotate_left
                                                      · intro w'
                                                        go_simp
                                                        with_reducible rfl
                                                      rotate_left
                                                      · simp only [Act.put, List.setIfInBounds_toArray, List.set_cons_zero, List.set_cons_succ, i64_w, i32_w]
                                                        rfl
                                                      refine pure_ (i := 14) (N := some 81) (v := ?_) (a' := ?_) #[true, true, true, true, true, true, true, true, true, true, true, true, true, true, true, false, false, false, false, false, false, false, false, false, false, false, false, false, false, false] rfl rfl (any_of HT_.out (by kernel_rfl)) (fun _ _ _ h => h) (Or.inl ⟨by rfl, ?_⟩) ?_ ?_
                                                      rotate_left
                                                      · intro w'
                                                        go_simp
                                                        with_reducible rfl
                                                      rotate_left
                                                      · simp only [Act.put, List.setIfInBounds_toArray, List.set_cons_zero, List.set_cons_succ, i64_w, i32_w]
                                                        rfl
                                                      refine pure_ (i := 15) (N := some 82) (v := ?_) (a' := ?_) #[true, true, true, true, true, true, true, true, true, true, true, true, true, true, true, true, false, false, false, false, false, false, false, false, false, false, false, false, false, false] rfl rfl (any_of HT_.out (by kernel_rfl)) (fun _ _ _ h => h) (Or.inl ⟨by rfl, ?_⟩) ?_ ?_
                                                      rotate_left
                                                      · intro w'
                                                        go_simp
                                                        with_reducible rfl
                                                      rotate_left
                                                      · simp only [Act.put, List.setIfInBounds_toArray, List.set_cons_zero, List.set_cons_succ, i64_w, i32_w]
                                                        rfl
                                                      refine pure_ (i := 16) (N := some 83) (v := ?_) (a' := ?_) #[true, true, true, true, true, true, true, true, true, true, true, true, true, true, true, true, true, false, false, false, false, false, false, false, false, false, false, false, false, false] rfl rfl (any_of HT_.out (by kernel_rfl)) (fun _ _ _ h => h) (Or.inl ⟨by rfl, ?_⟩) ?_ ?_
                                                      rotate_left
                                                      · intro w'
                                                        go_simp
                                                        with_reducible rfl
                                                      rotate_left
                                                      · simp only [Act.put, List.setIfInBounds_toArray, List.set_cons_zero, List.set_cons_succ, i64_w, i32_w]
                                                        rfl
                                                      refine pure_ (i := 17) (N := some 84) (v := ?_) (a' := ?_) #[true, true, true, true, true, true, true, true, true, true, true, true, true, true, true, true, true, true, false, false, false, false, false, false, false, false, false, false, false, false] rfl rfl (any_of HT_.out (by kernel_rfl)) (fun _ _ _ h => h) (Or.inl ⟨by rfl, ?_⟩) ?_ ?_
                                                      rotate_left
                                                      · intro w'
                                                        go_simp
                                                        with_reducible rfl
                                                      rotate_left
                                                      · simp only [Act.put, List.setIfInBounds_toArray, List.set_cons_zero, List.set_cons_succ, i64_w, i32_w]
                                                        rfl
                                                      refine pure_ (i := 19) (N := some 86) (v := ?_) (a' := ?_) #[true, true, true, true, true, true, true, true, true, true, true, true, true, true, true, true, true, true, false, true, false, false, false, false, false, false, false, false, false, false] rfl rfl (any_of HT_.out (by kernel_rfl)) (fun _ _ _ h => h) (Or.inl ⟨by rfl, ?_⟩) ?_ ?_
                                                      rotate_left
                                                      · intro w'
                                                        go_simp
                                                        with_reducible rfl
                                                      rotate_left
                                                      · simp only [Act.put, List.setIfInBounds_toArray, List.set_cons_zero, List.set_cons_succ, i64_w, i32_w]
                                                        rfl
                                                      refine pure_ (i := 21) (N := some 88) (v := ?_) (a' := ?_) #[true, true, true, true, true, true, true, true, true, true, true, true, true, true, true, true, true, true, false, true, false, true, false, false, false, false, false, false, false, false] rfl rfl (any_of HT_.out (by kernel_rfl)) (fun _ _ _ h => h) (Or.inl ⟨by rfl, ?_⟩) ?_ ?_
                                                      rotate_left
                                                      · intro w'
                                                        go_simp
                                                        with_reducible rfl
                                                      rotate_left
                                                      · simp only [Act.put, List.setIfInBounds_toArray, List.set_cons_zero, List.set_cons_succ, i64_w, i32_w]
                                                        rfl
                                                      refine pure_ (i := 25) (N := some 92) (v := ?_) (a' := ?_) #[true, true, true, true, true, true, true, true, true, true, true, true, true, true, true, true, true, true, false, true, false, true, false, false, false, true, false, false, false, false] rfl rfl (any_of HT_.out (by kernel_rfl)) (fun _ _ _ h => h) (Or.inl ⟨by rfl, ?_⟩) ?_ ?_
                                                      rotate_left
                                                      · intro w'
                                                        go_simp
                                                        with_reducible rfl
                                                      rotate_left
                                                      · simp only [Act.put, List.setIfInBounds_toArray, List.set_cons_zero, List.set_cons_succ, i64_w, i32_w]
                                                        rfl
                                                      refine take_ (i := 18) (N := some 85) (v := ?_) (a' := ?_) #[true, true, true, true, true, true, true, true, true, true, true, true, true, true, true, true, true, true, true, true, false, true, false, false, false, true, false, false, false, false] rfl rfl (take_ofW HT_.out HW_.out (by kernel_rfl)) (fun _ _ _ h => h) (Or.inl ⟨by rfl, ?_⟩) hHeld ?_ ?_
                                                      rotate_left
                                                      · rintro w' ⟨s0, s1, s2⟩
                                                        go_simp
                                                        with_reducible rfl
                                                      rotate_left
                                                      · simp only [Act.put, List.setIfInBounds_toArray, List.set_cons_zero, List.set_cons_succ, i64_w, i32_w]
                                                        rfl
                                                      refine take_ (i := 20) (N := some 87) (v := ?_) (a' := ?_) #[true, true, true, true, true, true, true, true, true, true, true, true, true, true, true, true, true, true, true, true, true, true, false, false, false, true, false, false, false, false] rfl rfl (take_ofW HT_.out HW_.out (by kernel_rfl)) (fun _ _ _ h => h) (Or.inl ⟨by rfl, ?_⟩) hHeld ?_ ?_
                                                      rotate_left
                                                      · rintro w' ⟨s0, s1, s2⟩
                                                        go_simp
                                                        with_reducible rfl
                                                      rotate_left
                                                      · simp only [Act.put, List.setIfInBounds_toArray, List.set_cons_zero, List.set_cons_succ, i64_w, i32_w]
                                                        rfl
                                                      refine take_ (i := 22) (N := some 89) (v := ?_) (a' := ?_) #[true, true, true, true, true, true, true, true, true, true, true, true, true, true, true, true, true, true, true, true, true, true, true, false, false, true, false, false, false, false] rfl rfl (take_ofW HT_.out HW_.out (by kernel_rfl)) (fun _ _ _ h => h) (Or.inl ⟨by rfl, ?_⟩) hHeld ?_ ?_
                                                      rotate_left
                                                      · rintro w' ⟨s0, s1, s2⟩
                                                        go_simp
                                                        with_reducible rfl
                                                      rotate_left
                                                      · simp only [Act.put, List.setIfInBounds_toArray, List.set_cons_zero, List.set_cons_succ, i64_w, i32_w]
                                                        rfl
                                                      refine pure_ (i := 23) (N := some 90) (v := ?_) (a' := ?_) #[true, true, true, true, true, true, true, true, true, true, true, true, true, true, true, true, true, true, true, true, true, true, true, true, false, true, false, false, false, false] rfl rfl (any_of HT_.out (by kernel_rfl)) (fun _ _ _ h => h) (Or.inl ⟨by rfl, ?_⟩) ?_ ?_
                                                      rotate_left
                                                      · intro w'
                                                        go_simp
                                                        with_reducible rfl
                                                      rotate_left
                                                      · simp only [Act.put, List.setIfInBounds_toArray, List.set_cons_zero, List.set_cons_succ, i64_w, i32_w]
                                                        rfl
                                                      refine pure_ (i := 24) (N := some 91) (v := ?_) (a' := ?_) #[true, true, true, true, true, true, true, true, true, true, true, true, true, true, true, true, true, true, true, true, true, true, true, true, true, true, false, false, false, false] rfl rfl (any_of HT_.out (by kernel_rfl)) (fun _ _ _ h => h) (Or.inl ⟨by rfl, ?_⟩) ?_ ?_
                                                      rotate_left
                                                      · intro w'
                                                        go_simp
                                                        with_reducible rfl
                                                      rotate_left
                                                      · simp only [Act.put, List.setIfInBounds_toArray, List.set_cons_zero, List.set_cons_succ, i64_w, i32_w]
                                                        rfl
                                                      refine pure_ (i := 26) (N := some 93) (v := ?_) (a' := ?_) #[true, true, true, true, true, true, true, true, true, true, true, true, true, true, true, true, true, true, true, true, true, true, true, true, true, true, true, false, false, false] rfl rfl (any_of HT_.out (by kernel_rfl)) (fun _ _ _ h => h) (Or.inl ⟨by rfl, ?_⟩) ?_ ?_
                                                      rotate_left
                                                      · intro w'
                                                        go_simp
                                                        with_reducible rfl
                                                      rotate_left
                                                      · simp only [Act.put, List.setIfInBounds_toArray, List.set_cons_zero, List.set_cons_succ, i64_w, i32_w]
                                                        rfl
                                                      refine take_ (i := 27) (N := some 94) (v := ?_) (a' := ?_) #[true, true, true, true, true, true, true, true, true, true, true, true, true, true, true, true, true, true, true, true, true, true, true, true, true, true, true, true, false, false] rfl rfl (take_ofW HT_.out HW_.out (by kernel_rfl)) (fun _ _ _ h => h) (Or.inl ⟨by rfl, ?_⟩) hHeld ?_ ?_
                                                      rotate_left
                                                      · rintro w' ⟨s0, s1, s2⟩
                                                        go_simp
                                                        with_reducible rfl
                                                      rotate_left
                                                      · simp only [Act.put, List.setIfInBounds_toArray, List.set_cons_zero, List.set_cons_succ, i64_w, i32_w]
                                                        rfl
                                                      refine pure_ (i := 28) (N := some 95) (v := ?_) (a' := ?_) #[true, true, true, true, true, true, true, true, true, true, true, true, true, true, true, true, true, true, true, true, true, true, true, true, true, true, true, true, true, false] rfl rfl (any_of HT_.out (by kernel_rfl)) (fun _ _ _ h => h) (Or.inl ⟨by rfl, ?_⟩) ?_ ?_
                                                      rotate_left
                                                      · intro w'
                                                        go_simp
                                                        with_reducible rfl
                                                      rotate_left
                                                      · simp only [Act.put, List.setIfInBounds_toArray, List.set_cons_zero, List.set_cons_succ, i64_w, i32_w]
                                                        rfl
                                                      refine pure_ (i := 29) (N := some 96) (v := ?_) (a' := ?_) #[true, true, true, true, true, true, true, true, true, true, true, true, true, true, true, true, true, true, true, true, true, true, true, true, true, true, true, true, true, true] rfl rfl (any_of HT_.out (by kernel_rfl)) (fun _ _ _ h => h) (Or.inl ⟨by rfl, ?_⟩) ?_ ?_
                                                      rotate_left
                                                      · intro w'
                                                        go_simp
                                                        with_reducible rfl
                                                      rotate_left
                                                      · simp only [Act.put, List.setIfInBounds_toArray, List.set_cons_zero, List.set_cons_succ, i64_w, i32_w]
                                                        rfl
                                                      refine done_ (done_of HT_.out (by kernel_rfl)) ?_
                                                      try go_wp2
                                                      go_meet
                                                      case rel => exact ⟨_, (((bt ((a0.extract (((rd_T42 l1 x21_1).f0) : Int).toNat (((rd_T42 l1 x21_1).f1) : Int).toNat).extract (x11_2 : Int).toNat (min (((rd_T42 l1 x21_1).f1) : Int).toNat a0.size - (((rd_T42 l1 x21_1).f0) : Int).toNat : Nat)) (ji34)) == (bt (((rd_T42 l1 x21_1).f2).extract (x11_2 : Int).toNat ((rd_T42 l1 x21_1).f2).size) (ji38)))), (by first | rfl | (simp; done) | (simp only [← hji34, ← hji38] <;> (first | rfl | simp)) | (simp [*]; done)), H', ⟨by have := HK1.out; have := HK2.out; have := HJ13.out; have := HK4.out; first | omega | exact Nat.le_refl _⟩, ⟨by (with_reducible repeat (first | apply Kd.R_alloc | apply Kd.R_drewN | apply Kd.R_drew)); exact HO_7.out⟩, ⟨by (with_reducible repeat (first | refine blk_drewN ?_ _ | refine blk_drew ?_ | refine blk_alloc ?_ _)); exact BK316.out⟩, ⟨by repeat (first | (with_reducible first | exact HB.out | apply below_alloc | apply pw_below_drewN | apply below_drew1 | refine below_set ?_ GE316.out) | exact HB.out)⟩⟩
                                                    · rw [if_neg c40] at H
                                                      exact absurd H (by simp)
                                                  · rw [if_neg c39] at H
                                                    exact absurd H (by simp)
                                                · rw [if_neg c36] at H
                                                  exact absurd H (by simp)
                                              · rw [if_neg c35] at H
                                                exact absurd H (by simp)
                                            · rw [if_neg c33] at H
                                              have c33b0 : decide (x11_4 < ((((rd_T42 l1 x21_1).f2).size - (x11_2 : Int).toNat : Nat) : Int)) = false := decide_eq_false c33
                                              try (have c33b0x := c33b0; simp only [ByteArray.size_extract, Nat.min_self] at c33b0x)
                                              try (first | have c33b0y := eq_true (of_decide_eq_true c33b0x) | have c33b0y := eq_false (of_decide_eq_false c33b0x))
                                              clear c33
                                              have H' := Aside0.mk H
                                              clear H
                                              try go_wp2
                                              have n0_ := Aside0.mk (Kd.R_drew HO_7.out)
                                              have n1_ := Aside0.mk (blk_drew BK316.out)
                                              have n2_ := Aside0.mk (below_drew1 HB.out)
                                              clear HO_7
                                              clear BK316
                                              clear HB
                                              have HO_7 := n0_
                                              have BK316 := n1_
                                              have HB := n2_
                                              clear n0_ n1_ n2_
                                              refine start_ (n := 30) (S := fun w' => w'.cell? ⟨gb316, 0, none⟩ = some (.int .i64 (wrap64 (((rd_T42 l1 x21_1).f0) + x11_2))) ∧ w'.cell? ⟨gb316, 1, none⟩ = some (.int .i64 ((rd_T42 l1 x21_1).f1)) ∧ w'.cell? ⟨gb316, 2, none⟩ = some (.string (((rd_T42 l1 x21_1).f2).extract (x11_2 : Int).toNat ((rd_T42 l1 x21_1).f2).size))) (ds := []) #[false, false, false, false, false, false, false, false, false, false, false, false, false, false, false, false, false, false, false, false, false, false, false, false, false, false, false, false, false, false] (by kernel_rfl) rfl rfl ⟨(blk_cell BK316.out 0).trans rfl, (blk_cell BK316.out 1).trans rfl, (blk_cell BK316.out 2).trans rfl⟩ (fun hHeld => ?_); refine with_tabW edits_Normal.tab15 edits_Normal.bits15 (fun HT_ HW_ => ?_)
                                              generalize wr.drew = w43 at HO_7 BK316 HB hHeld ⊢
                                              refine pure_ (i := 0) (N := some 67) (v := ?_) (a' := ?_) #[true, false, false, false, false, false, false, false, false, false, false, false, false, false, false, false, false, false, false, false, false, false, false, false, false, false, false, false, false, false] rfl rfl (any_of HT_.out (by kernel_rfl)) (fun _ _ _ h => h) (Or.inl ⟨by rfl, ?_⟩) ?_ ?_
                                              rotate_left
                                              · intro w'
                                                go_simp
                                                with_reducible rfl
                                              rotate_left
                                              · simp only [Act.put, List.setIfInBounds_toArray, List.set_cons_zero, List.set_cons_succ, i64_w, i32_w]
                                                rfl
                                              refine pure_ (i := 1) (N := some 68) (v := ?_) (a' := ?_) #[true, true, false, false, false, false, false, false, false, false, false, false, false, false, false, false, false, false, false, false, false, false, false, false, false, false, false, false, false, false] rfl rfl (any_of HT_.out (by kernel_rfl)) (fun _ _ _ h => h) (Or.inl ⟨by rfl, ?_⟩) ?_ ?_
                                              rotate_left
                                              · intro w'
                                                go_simp
                                                with_reducible rfl
                                              rotate_left
                                              · simp only [Act.put, List.setIfInBounds_toArray, List.set_cons_zero, List.set_cons_succ, i64_w, i32_w]
                                                rfl
                                              refine pure_ (i := 2) (N := some 69) (v := ?_) (a' := ?_) #[true, true, true, false, false, false, false, false, false, false, false, false, false, false, false, false, false, false, false, false, false, false, false, false, false, false, false, false, false, false] rfl rfl (any_of HT_.out (by kernel_rfl)) (fun _ _ _ h => h) (Or.inl ⟨by rfl, ?_⟩) ?_ ?_
                                              rotate_left
                                              · intro w'
                                                go_simp
                                                with_reducible rfl
                                              rotate_left
                                              · simp only [Act.put, List.setIfInBounds_toArray, List.set_cons_zero, List.set_cons_succ, i64_w, i32_w]
                                                rfl
                                              refine pure_ (i := 3) (N := some 70) (v := ?_) (a' := ?_) #[true, true, true, true, false, false, false, false, false, false, false, false, false, false, false, false, false, false, false, false, false, false, false, false, false, false, false, false, false, false] rfl rfl (any_of HT_.out (by kernel_rfl)) (fun _ _ _ h => h) (Or.inl ⟨by rfl, ?_⟩) ?_ ?_
                                              rotate_left
                                              · intro w'
                                                go_simp
                                                with_reducible rfl
                                              rotate_left
                                              · simp only [Act.put, List.setIfInBounds_toArray, List.set_cons_zero, List.set_cons_succ, i64_w, i32_w]
                                                rfl
                                              refine pure_ (i := 4) (N := some 71) (v := ?_) (a' := ?_) #[true, true, true, true, true, false, false, false, false, false, false, false, false, false, false, false, false, false, false, false, false, false, false, false, false, false, false, false, false, false] rfl rfl (any_of HT_.out (by kernel_rfl)) (fun _ _ _ h => h) (Or.inl ⟨by rfl, ?_⟩) ?_ ?_
                                              rotate_left
                                              · intro w'
                                                go_simp
                                                with_reducible rfl
                                              rotate_left
                                              · simp only [Act.put, List.setIfInBounds_toArray, List.set_cons_zero, List.set_cons_succ, i64_w, i32_w]
                                                rfl
                                              refine pure_ (i := 5) (N := some 72) (v := ?_) (a' := ?_) #[true, true, true, true, true, true, false, false, false, false, false, false, false, false, false, false, false, false, false, false, false, false, false, false, false, false, false, false, false, false] rfl rfl (any_of HT_.out (by kernel_rfl)) (fun _ _ _ h => h) (Or.inl ⟨by rfl, ?_⟩) ?_ ?_
                                              rotate_left
                                              · intro w'
                                                go_simp
                                                with_reducible rfl
                                              rotate_left
                                              · simp only [Act.put, List.setIfInBounds_toArray, List.set_cons_zero, List.set_cons_succ, i64_w, i32_w]
                                                rfl
                                              refine pure_ (i := 6) (N := some 73) (v := ?_) (a' := ?_) #[true, true, true, true, true, true, true, false, false, false, false, false, false, false, false, false, false, false, false, false, false, false, false, false, false, false, false, false, false, false] rfl rfl (any_of HT_.out (by kernel_rfl)) (fun _ _ _ h => h) (Or.inl ⟨by rfl, ?_⟩) ?_ ?_
                                              rotate_left
                                              · intro w'
                                                go_simp
                                                with_reducible rfl
                                              rotate_left
                                              · simp only [Act.put, List.setIfInBounds_toArray, List.set_cons_zero, List.set_cons_succ, i64_w, i32_w]
                                                rfl
                                              refine take_ (i := 7) (N := some 74) (v := ?_) (a' := ?_) #[true, true, true, true, true, true, true, true, false, false, false, false, false, false, false, false, false, false, false, false, false, false, false, false, false, false, false, false, false, false] rfl rfl (take_ofW HT_.out HW_.out (by kernel_rfl)) (fun _ _ _ h => h) (Or.inl ⟨by rfl, ?_⟩) hHeld ?_ ?_
                                              rotate_left
                                              · rintro w' ⟨s0, s1, s2⟩
                                                go_simp
                                                with_reducible rfl
                                              rotate_left
                                              · simp only [Act.put, List.setIfInBounds_toArray, List.set_cons_zero, List.set_cons_succ, i64_w, i32_w]
                                                rfl
                                              refine pure_ (i := 8) (N := some 75) (v := ?_) (a' := ?_) #[true, true, true, true, true, true, true, true, true, false, false, false, false, false, false, false, false, false, false, false, false, false, false, false, false, false, false, false, false, false] rfl rfl (any_of HT_.out (by kernel_rfl)) (fun _ _ _ h => h) (Or.inl ⟨by rfl, ?_⟩) ?_ ?_
                                              rotate_left
                                              · intro w'
                                                go_simp
                                                with_reducible rfl
                                              rotate_left
                                              · simp only [Act.put, List.setIfInBounds_toArray, List.set_cons_zero, List.set_cons_succ, i64_w, i32_w]
                                                rfl
                                              refine pure_ (i := 9) (N := some 76) (v := ?_) (a' := ?_) #[true, true, true, true, true, true, true, true, true, true, false, false, false, false, false, false, false, false, false, false, false, false, false, false, false, false, false, false, false, false] rfl rfl (any_of HT_.out (by kernel_rfl)) (fun _ _ _ h => h) (Or.inl ⟨by rfl, ?_⟩) ?_ ?_
                                              rotate_left
                                              · intro w'
                                                go_simp
                                                with_reducible rfl
                                              rotate_left
                                              · simp only [Act.put, List.setIfInBounds_toArray, List.set_cons_zero, List.set_cons_succ, i64_w, i32_w]
                                                rfl
                                              refine pure_ (i := 10) (N := some 77) (v := ?_) (a' := ?_) #[true, true, true, true, true, true, true, true, true, true, true, false, false, false, false, false, false, false, false, false, false, false, false, false, false, false, false, false, false, false] rfl rfl (any_of HT_.out (by kernel_rfl)) (fun _ _ _ h => h) (Or.inl ⟨by rfl, ?_⟩) ?_ ?_
                                              rotate_left
                                              · intro w'
                                                go_simp
                                                with_reducible rfl
                                              rotate_left
                                              · simp only [Act.put, List.setIfInBounds_toArray, List.set_cons_zero, List.set_cons_succ, i64_w, i32_w]
                                                rfl
                                              refine pure_ (i := 11) (N := some 78) (v := ?_) (a' := ?_) #[true, true, true, true, true, true, true, true, true, true, true, true, false, false, false, false, false, false, false, false, false, false, false, false, false, false, false, false, false, false] rfl rfl (any_of HT_.out (by kernel_rfl)) (fun _ _ _ h => h) (Or.inl ⟨by rfl, ?_⟩) ?_ ?_
                                              rotate_left
                                              · intro w'
                                                go_simp
                                                with_reducible rfl
                                              rotate_left
                                              · simp only [Act.put, List.setIfInBounds_toArray, List.set_cons_zero, List.set_cons_succ, i64_w, i32_w]
                                                rfl
                                              refine pure_ (i := 12) (N := some 79) (v := undef) (a' := ?_) #[true, true, true, true, true, true, true, true, true, true, true, true, true, false, false, false, false, false, false, false, false, false, false, false, false, false, false, false, false, false] rfl rfl (any_of HT_.out (by kernel_rfl)) (fun _ _ _ h => h) (Or.inr ⟨by rfl, rfl⟩) ?_ ?_
                                              rotate_left
                                              · simp only [Act.put, List.setIfInBounds_toArray, List.set_cons_zero, List.set_cons_succ, i64_w, i32_w]
                                                rfl
                                              refine pure_ (i := 13) (N := some 80) (v := undef) (a' := ?_) #[true, true, true, true, true, true, true, true, true, true, true, true, true, true, false, false, false, false, false, false, false, false, false, false, false, false, false, false, false, false] rfl rfl (any_of HT_.out (by kernel_rfl)) (fun _ _ _ h => h) (Or.inr ⟨by rfl, rfl⟩) ?_ ?_
                                              rotate_left
                                              · simp only [Act.put, List.setIfInBounds_toArray, List.set_cons_zero, List.set_cons_succ, i64_w, i32_w]
                                                rfl
                                              refine pure_ (i := 14) (N := some 81) (v := undef) (a' := ?_) #[true, true, true, true, true, true, true, true, true, true, true, true, true, true, true, false, false, false, false, false, false, false, false, false, false, false, false, false, false, false] rfl rfl (any_of HT_.out (by kernel_rfl)) (fun _ _ _ h => h) (Or.inr ⟨by rfl, rfl⟩) ?_ ?_
                                              rotate_left
                                              · simp only [Act.put, List.setIfInBounds_toArray, List.set_cons_zero, List.set_cons_succ, i64_w, i32_w]
                                                rfl
                                              refine pure_ (i := 15) (N := some 82) (v := undef) (a' := ?_) #[true, true, true, true, true, true, true, true, true, true, true, true, true, true, true, true, false, false, false, false, false, false, false, false, false, false, false, false, false, false] rfl rfl (any_of HT_.out (by kernel_rfl)) (fun _ _ _ h => h) (Or.inr ⟨by rfl, rfl⟩) ?_ ?_
                                              rotate_left
                                              · simp only [Act.put, List.setIfInBounds_toArray, List.set_cons_zero, List.set_cons_succ, i64_w, i32_w]
                                                rfl
                                              refine pure_ (i := 16) (N := some 83) (v := undef) (a' := ?_) #[true, true, true, true, true, true, true, true, true, true, true, true, true, true, true, true, true, false, false, false, false, false, false, false, false, false, false, false, false, false] rfl rfl (any_of HT_.out (by kernel_rfl)) (fun _ _ _ h => h) (Or.inr ⟨by rfl, rfl⟩) ?_ ?_
                                              rotate_left
                                              · simp only [Act.put, List.setIfInBounds_toArray, List.set_cons_zero, List.set_cons_succ, i64_w, i32_w]
                                                rfl
                                              refine pure_ (i := 17) (N := some 84) (v := undef) (a' := ?_) #[true, true, true, true, true, true, true, true, true, true, true, true, true, true, true, true, true, true, false, false, false, false, false, false, false, false, false, false, false, false] rfl rfl (any_of HT_.out (by kernel_rfl)) (fun _ _ _ h => h) (Or.inr ⟨by rfl, rfl⟩) ?_ ?_
                                              rotate_left
                                              · simp only [Act.put, List.setIfInBounds_toArray, List.set_cons_zero, List.set_cons_succ, i64_w, i32_w]
                                                rfl
                                              refine pure_ (i := 18) (N := some 85) (v := undef) (a' := ?_) #[true, true, true, true, true, true, true, true, true, true, true, true, true, true, true, true, true, true, true, false, false, false, false, false, false, false, false, false, false, false] rfl rfl (any_of HT_.out (by kernel_rfl)) (fun _ _ _ h => h) (Or.inr ⟨by rfl, rfl⟩) ?_ ?_
                                              rotate_left
                                              · simp only [Act.put, List.setIfInBounds_toArray, List.set_cons_zero, List.set_cons_succ, i64_w, i32_w]
                                                rfl
                                              refine pure_ (i := 19) (N := some 86) (v := undef) (a' := ?_) #[true, true, true, true, true, true, true, true, true, true, true, true, true, true, true, true, true, true, true, true, false, false, false, false, false, false, false, false, false, false] rfl rfl (any_of HT_.out (by kernel_rfl)) (fun _ _ _ h => h) (Or.inr ⟨by rfl, rfl⟩) ?_ ?_
                                              rotate_left
                                              · simp only [Act.put, List.setIfInBounds_toArray, List.set_cons_zero, List.set_cons_succ, i64_w, i32_w]
                                                rfl
                                              refine pure_ (i := 20) (N := some 87) (v := undef) (a' := ?_) #[true, true, true, true, true, true, true, true, true, true, true, true, true, true, true, true, true, true, true, true, true, false, false, false, false, false, false, false, false, false] rfl rfl (any_of HT_.out (by kernel_rfl)) (fun _ _ _ h => h) (Or.inr ⟨by rfl, rfl⟩) ?_ ?_
                                              rotate_left
                                              · simp only [Act.put, List.setIfInBounds_toArray, List.set_cons_zero, List.set_cons_succ, i64_w, i32_w]
                                                rfl
                                              refine pure_ (i := 21) (N := some 88) (v := undef) (a' := ?_) #[true, true, true, true, true, true, true, true, true, true, true, true, true, true, true, true, true, true, true, true, true, true, false, false, false, false, false, false, false, false] rfl rfl (any_of HT_.out (by kernel_rfl)) (fun _ _ _ h => h) (Or.inr ⟨by rfl, rfl⟩) ?_ ?_
                                              rotate_left
                                              · simp only [Act.put, List.setIfInBounds_toArray, List.set_cons_zero, List.set_cons_succ, i64_w, i32_w]
                                                rfl
                                              refine pure_ (i := 22) (N := some 89) (v := undef) (a' := ?_) #[true, true, true, true, true, true, true, true, true, true, true, true, true, true, true, true, true, true, true, true, true, true, true, false, false, false, false, false, false, false] rfl rfl (any_of HT_.out (by kernel_rfl)) (fun _ _ _ h => h) (Or.inr ⟨by rfl, rfl⟩) ?_ ?_
                                              rotate_left
                                              · simp only [Act.put, List.setIfInBounds_toArray, List.set_cons_zero, List.set_cons_succ, i64_w, i32_w]
                                                rfl
                                              refine pure_ (i := 23) (N := some 90) (v := undef) (a' := ?_) #[true, true, true, true, true, true, true, true, true, true, true, true, true, true, true, true, true, true, true, true, true, true, true, true, false, false, false, false, false, false] rfl rfl (any_of HT_.out (by kernel_rfl)) (fun _ _ _ h => h) (Or.inr ⟨by rfl, rfl⟩) ?_ ?_
                                              rotate_left
                                              · simp only [Act.put, List.setIfInBounds_toArray, List.set_cons_zero, List.set_cons_succ, i64_w, i32_w]
                                                rfl
                                              refine pure_ (i := 24) (N := some 91) (v := undef) (a' := ?_) #[true, true, true, true, true, true, true, true, true, true, true, true, true, true, true, true, true, true, true, true, true, true, true, true, true, false, false, false, false, false] rfl rfl (any_of HT_.out (by kernel_rfl)) (fun _ _ _ h => h) (Or.inr ⟨by rfl, rfl⟩) ?_ ?_
                                              rotate_left
                                              · simp only [Act.put, List.setIfInBounds_toArray, List.set_cons_zero, List.set_cons_succ, i64_w, i32_w]
                                                rfl
                                              refine pure_ (i := 25) (N := some 92) (v := undef) (a' := ?_) #[true, true, true, true, true, true, true, true, true, true, true, true, true, true, true, true, true, true, true, true, true, true, true, true, true, true, false, false, false, false] rfl rfl (any_of HT_.out (by kernel_rfl)) (fun _ _ _ h => h) (Or.inr ⟨by rfl, rfl⟩) ?_ ?_
                                              rotate_left
                                              · simp only [Act.put, List.setIfInBounds_toArray, List.set_cons_zero, List.set_cons_succ, i64_w, i32_w]
                                                rfl
                                              refine pure_ (i := 26) (N := some 93) (v := undef) (a' := ?_) #[true, true, true, true, true, true, true, true, true, true, true, true, true, true, true, true, true, true, true, true, true, true, true, true, true, true, true, false, false, false] rfl rfl (any_of HT_.out (by kernel_rfl)) (fun _ _ _ h => h) (Or.inr ⟨by rfl, rfl⟩) ?_ ?_
                                              rotate_left
                                              · simp only [Act.put, List.setIfInBounds_toArray, List.set_cons_zero, List.set_cons_succ, i64_w, i32_w]
                                                rfl
                                              refine pure_ (i := 27) (N := some 94) (v := undef) (a' := ?_) #[true, true, true, true, true, true, true, true, true, true, true, true, true, true, true, true, true, true, true, true, true, true, true, true, true, true, true, true, false, false] rfl rfl (any_of HT_.out (by kernel_rfl)) (fun _ _ _ h => h) (Or.inr ⟨by rfl, rfl⟩) ?_ ?_
                                              rotate_left
                                              · simp only [Act.put, List.setIfInBounds_toArray, List.set_cons_zero, List.set_cons_succ, i64_w, i32_w]
                                                rfl
                                              refine pure_ (i := 28) (N := some 95) (v := undef) (a' := ?_) #[true, true, true, true, true, true, true, true, true, true, true, true, true, true, true, true, true, true, true, true, true, true, true, true, true, true, true, true, true, false] rfl rfl (any_of HT_.out (by kernel_rfl)) (fun _ _ _ h => h) (Or.inr ⟨by rfl, rfl⟩) ?_ ?_
                                              rotate_left
                                              · simp only [Act.put, List.setIfInBounds_toArray, List.set_cons_zero, List.set_cons_succ, i64_w, i32_w]
                                                rfl
                                              refine pure_ (i := 29) (N := some 96) (v := ?_) (a' := ?_) #[true, true, true, true, true, true, true, true, true, true, true, true, true, true, true, true, true, true, true, true, true, true, true, true, true, true, true, true, true, true] rfl rfl (any_of HT_.out (by kernel_rfl)) (fun _ _ _ h => h) (Or.inl ⟨by rfl, ?_⟩) ?_ ?_
                                              rotate_left
                                              · intro w'
                                                go_simp
                                                with_reducible rfl
                                              rotate_left
                                              · simp only [Act.put, List.setIfInBounds_toArray, List.set_cons_zero, List.set_cons_succ, i64_w, i32_w]
                                                rfl
                                              refine done_ (done_of HT_.out (by kernel_rfl)) ?_
                                              try go_wp2
                                              go_meet
                                              case rel => exact ⟨_, (false), (by first | rfl | (simp; done) | (simp [*]; done)), H', ⟨by have := HK1.out; have := HK2.out; have := HJ13.out; have := HK4.out; first | omega | exact Nat.le_refl _⟩, ⟨by (with_reducible repeat (first | apply Kd.R_alloc | apply Kd.R_drewN | apply Kd.R_drew)); exact HO_7.out⟩, ⟨by (with_reducible repeat (first | refine blk_drewN ?_ _ | refine blk_drew ?_ | refine blk_alloc ?_ _)); exact BK316.out⟩, ⟨by repeat (first | (with_reducible first | exact HB.out | apply below_alloc | apply pw_below_drewN | apply below_drew1 | refine below_set ?_ GE316.out) | exact HB.out)⟩⟩
                                          · rw [if_neg c32] at H
                                            have c32b0 : decide (x11_4 < (((min (((rd_T42 l1 x21_1).f1) : Int).toNat a0.size - (((rd_T42 l1 x21_1).f0) : Int).toNat : Nat) - (x11_2 : Int).toNat : Nat) : Int)) = false := decide_eq_false c32
                                            try (have c32b0x := c32b0; simp only [ByteArray.size_extract, Nat.min_self] at c32b0x)
                                            try (first | have c32b0y := eq_true (of_decide_eq_true c32b0x) | have c32b0y := eq_false (of_decide_eq_false c32b0x))
                                            clear c32
                                            (first | rw [c32b0] | (simp only [i64_w, i32_w]; rw [c32b0]) | skip)
                                            have H' := Aside0.mk H
                                            clear H
                                            try go_wp2
                                            have n0_ := Aside0.mk (Kd.R_drew HO_7.out)
                                            have n1_ := Aside0.mk (blk_drew BK316.out)
                                            have n2_ := Aside0.mk (below_drew1 HB.out)
                                            clear HO_7
                                            clear BK316
                                            clear HB
                                            have HO_7 := n0_
                                            have BK316 := n1_
                                            have HB := n2_
                                            clear n0_ n1_ n2_
                                            refine start_ (n := 30) (S := fun w' => True) (ds := []) #[false, false, false, false, false, false, false, false, false, false, false, false, false, false, false, false, false, false, false, false, false, false, false, false, false, false, false, false, false, false] (by kernel_rfl) rfl rfl trivial (fun hHeld => ?_); refine with_tabW edits_Normal.tab15 edits_Normal.bits15 (fun HT_ HW_ => ?_)
                                            generalize wr.drew = w44 at HO_7 BK316 HB hHeld ⊢
                                            refine pure_ (i := 0) (N := some 67) (v := ?_) (a' := ?_) #[true, false, false, false, false, false, false, false, false, false, false, false, false, false, false, false, false, false, false, false, false, false, false, false, false, false, false, false, false, false] rfl rfl (any_of HT_.out (by kernel_rfl)) (fun _ _ _ h => h) (Or.inl ⟨by rfl, ?_⟩) ?_ ?_
                                            rotate_left
                                            · intro w'
                                              go_simp
                                              with_reducible rfl
                                            rotate_left
                                            · simp only [Act.put, List.setIfInBounds_toArray, List.set_cons_zero, List.set_cons_succ, i64_w, i32_w]
                                              rfl
                                            refine pure_ (i := 1) (N := some 68) (v := ?_) (a' := ?_) #[true, true, false, false, false, false, false, false, false, false, false, false, false, false, false, false, false, false, false, false, false, false, false, false, false, false, false, false, false, false] rfl rfl (any_of HT_.out (by kernel_rfl)) (fun _ _ _ h => h) (Or.inl ⟨by rfl, ?_⟩) ?_ ?_
                                            rotate_left
                                            · intro w'
                                              go_simp
                                              with_reducible rfl
                                            rotate_left
                                            · simp only [Act.put, List.setIfInBounds_toArray, List.set_cons_zero, List.set_cons_succ, i64_w, i32_w]
                                              rfl
                                            refine pure_ (i := 2) (N := some 69) (v := ?_) (a' := ?_) #[true, true, true, false, false, false, false, false, false, false, false, false, false, false, false, false, false, false, false, false, false, false, false, false, false, false, false, false, false, false] rfl rfl (any_of HT_.out (by kernel_rfl)) (fun _ _ _ h => h) (Or.inl ⟨by rfl, ?_⟩) ?_ ?_
                                            rotate_left
                                            · intro w'
                                              go_simp
                                              with_reducible rfl
                                            rotate_left
                                            · simp only [Act.put, List.setIfInBounds_toArray, List.set_cons_zero, List.set_cons_succ, i64_w, i32_w]
                                              rfl
                                            refine pure_ (i := 3) (N := some 70) (v := ?_) (a' := ?_) #[true, true, true, true, false, false, false, false, false, false, false, false, false, false, false, false, false, false, false, false, false, false, false, false, false, false, false, false, false, false] rfl rfl (any_of HT_.out (by kernel_rfl)) (fun _ _ _ h => h) (Or.inl ⟨by rfl, ?_⟩) ?_ ?_
                                            rotate_left
                                            · intro w'
                                              go_simp
                                              with_reducible rfl
                                            rotate_left
                                            · simp only [Act.put, List.setIfInBounds_toArray, List.set_cons_zero, List.set_cons_succ, i64_w, i32_w]
                                              rfl
                                            refine pure_ (i := 4) (N := some 71) (v := ?_) (a' := ?_) #[true, true, true, true, true, false, false, false, false, false, false, false, false, false, false, false, false, false, false, false, false, false, false, false, false, false, false, false, false, false] rfl rfl (any_of HT_.out (by kernel_rfl)) (fun _ _ _ h => h) (Or.inl ⟨by rfl, ?_⟩) ?_ ?_
                                            rotate_left
                                            · intro w'
                                              go_simp
                                              with_reducible rfl
                                            rotate_left
                                            · simp only [Act.put, List.setIfInBounds_toArray, List.set_cons_zero, List.set_cons_succ, i64_w, i32_w]
                                              rfl
                                            refine pure_ (i := 5) (N := some 72) (v := undef) (a' := ?_) #[true, true, true, true, true, true, false, false, false, false, false, false, false, false, false, false, false, false, false, false, false, false, false, false, false, false, false, false, false, false] rfl rfl (any_of HT_.out (by kernel_rfl)) (fun _ _ _ h => h) (Or.inr ⟨by rfl, rfl⟩) ?_ ?_
                                            rotate_left
                                            · simp only [Act.put, List.setIfInBounds_toArray, List.set_cons_zero, List.set_cons_succ, i64_w, i32_w]
                                              rfl
                                            refine pure_ (i := 6) (N := some 73) (v := undef) (a' := ?_) #[true, true, true, true, true, true, true, false, false, false, false, false, false, false, false, false, false, false, false, false, false, false, false, false, false, false, false, false, false, false] rfl rfl (any_of HT_.out (by kernel_rfl)) (fun _ _ _ h => h) (Or.inr ⟨by rfl, rfl⟩) ?_ ?_
                                            rotate_left
                                            · simp only [Act.put, List.setIfInBounds_toArray, List.set_cons_zero, List.set_cons_succ, i64_w, i32_w]
                                              rfl
                                            refine pure_ (i := 7) (N := some 74) (v := undef) (a' := ?_) #[true, true, true, true, true, true, true, true, false, false, false, false, false, false, false, false, false, false, false, false, false, false, false, false, false, false, false, false, false, false] rfl rfl (any_of HT_.out (by kernel_rfl)) (fun _ _ _ h => h) (Or.inr ⟨by rfl, rfl⟩) ?_ ?_
                                            rotate_left
                                            · simp only [Act.put, List.setIfInBounds_toArray, List.set_cons_zero, List.set_cons_succ, i64_w, i32_w]
                                              rfl
                                            refine pure_ (i := 8) (N := some 75) (v := undef) (a' := ?_) #[true, true, true, true, true, true, true, true, true, false, false, false, false, false, false, false, false, false, false, false, false, false, false, false, false, false, false, false, false, false] rfl rfl (any_of HT_.out (by kernel_rfl)) (fun _ _ _ h => h) (Or.inr ⟨by rfl, rfl⟩) ?_ ?_
                                            rotate_left
                                            · simp only [Act.put, List.setIfInBounds_toArray, List.set_cons_zero, List.set_cons_succ, i64_w, i32_w]
                                              rfl
                                            refine pure_ (i := 9) (N := some 76) (v := undef) (a' := ?_) #[true, true, true, true, true, true, true, true, true, true, false, false, false, false, false, false, false, false, false, false, false, false, false, false, false, false, false, false, false, false] rfl rfl (any_of HT_.out (by kernel_rfl)) (fun _ _ _ h => h) (Or.inr ⟨by rfl, rfl⟩) ?_ ?_
                                            rotate_left
                                            · simp only [Act.put, List.setIfInBounds_toArray, List.set_cons_zero, List.set_cons_succ, i64_w, i32_w]
                                              rfl
                                            refine pure_ (i := 10) (N := some 77) (v := ?_) (a' := ?_) #[true, true, true, true, true, true, true, true, true, true, true, false, false, false, false, false, false, false, false, false, false, false, false, false, false, false, false, false, false, false] rfl rfl (any_of HT_.out (by kernel_rfl)) (fun _ _ _ h => h) (Or.inl ⟨by rfl, ?_⟩) ?_ ?_
                                            rotate_left
                                            · intro w'
                                              go_simp
                                              with_reducible rfl
                                            rotate_left
                                            · simp only [Act.put, List.setIfInBounds_toArray, List.set_cons_zero, List.set_cons_succ, i64_w, i32_w]
                                              rfl
                                            refine pure_ (i := 11) (N := some 78) (v := ?_) (a' := ?_) #[true, true, true, true, true, true, true, true, true, true, true, true, false, false, false, false, false, false, false, false, false, false, false, false, false, false, false, false, false, false] rfl rfl (any_of HT_.out (by kernel_rfl)) (fun _ _ _ h => h) (Or.inl ⟨by rfl, ?_⟩) ?_ ?_
                                            rotate_left
                                            · intro w'
                                              go_simp
                                              with_reducible rfl
                                            rotate_left
                                            · simp only [Act.put, List.setIfInBounds_toArray, List.set_cons_zero, List.set_cons_succ, i64_w, i32_w]
                                              rfl
                                            refine pure_ (i := 12) (N := some 79) (v := undef) (a' := ?_) #[true, true, true, true, true, true, true, true, true, true, true, true, true, false, false, false, false, false, false, false, false, false, false, false, false, false, false, false, false, false] rfl rfl (any_of HT_.out (by kernel_rfl)) (fun _ _ _ h => h) (Or.inr ⟨by rfl, rfl⟩) ?_ ?_
                                            rotate_left
                                            · simp only [Act.put, List.setIfInBounds_toArray, List.set_cons_zero, List.set_cons_succ, i64_w, i32_w]
                                              rfl
                                            refine pure_ (i := 13) (N := some 80) (v := undef) (a' := ?_) #[true, true, true, true, true, true, true, true, true, true, true, true, true, true, false, false, false, false, false, false, false, false, false, false, false, false, false, false, false, false] rfl rfl (any_of HT_.out (by kernel_rfl)) (fun _ _ _ h => h) (Or.inr ⟨by rfl, rfl⟩) ?_ ?_
                                            rotate_left
                                            · simp only [Act.put, List.setIfInBounds_toArray, List.set_cons_zero, List.set_cons_succ, i64_w, i32_w]
                                              rfl
                                            refine pure_ (i := 14) (N := some 81) (v := undef) (a' := ?_) #[true, true, true, true, true, true, true, true, true, true, true, true, true, true, true, false, false, false, false, false, false, false, false, false, false, false, false, false, false, false] rfl rfl (any_of HT_.out (by kernel_rfl)) (fun _ _ _ h => h) (Or.inr ⟨by rfl, rfl⟩) ?_ ?_
                                            rotate_left
                                            · simp only [Act.put, List.setIfInBounds_toArray, List.set_cons_zero, List.set_cons_succ, i64_w, i32_w]
                                              rfl
                                            refine pure_ (i := 15) (N := some 82) (v := undef) (a' := ?_) #[true, true, true, true, true, true, true, true, true, true, true, true, true, true, true, true, false, false, false, false, false, false, false, false, false, false, false, false, false, false] rfl rfl (any_of HT_.out (by kernel_rfl)) (fun _ _ _ h => h) (Or.inr ⟨by rfl, rfl⟩) ?_ ?_
                                            rotate_left
                                            · simp only [Act.put, List.setIfInBounds_toArray, List.set_cons_zero, List.set_cons_succ, i64_w, i32_w]
                                              rfl
                                            refine pure_ (i := 16) (N := some 83) (v := undef) (a' := ?_) #[true, true, true, true, true, true, true, true, true, true, true, true, true, true, true, true, true, false, false, false, false, false, false, false, false, false, false, false, false, false] rfl rfl (any_of HT_.out (by kernel_rfl)) (fun _ _ _ h => h) (Or.inr ⟨by rfl, rfl⟩) ?_ ?_
                                            rotate_left
                                            · simp only [Act.put, List.setIfInBounds_toArray, List.set_cons_zero, List.set_cons_succ, i64_w, i32_w]
                                              rfl
                                            refine pure_ (i := 17) (N := some 84) (v := undef) (a' := ?_) #[true, true, true, true, true, true, true, true, true, true, true, true, true, true, true, true, true, true, false, false, false, false, false, false, false, false, false, false, false, false] rfl rfl (any_of HT_.out (by kernel_rfl)) (fun _ _ _ h => h) (Or.inr ⟨by rfl, rfl⟩) ?_ ?_
                                            rotate_left
                                            · simp only [Act.put, List.setIfInBounds_toArray, List.set_cons_zero, List.set_cons_succ, i64_w, i32_w]
                                              rfl
                                            refine pure_ (i := 18) (N := some 85) (v := undef) (a' := ?_) #[true, true, true, true, true, true, true, true, true, true, true, true, true, true, true, true, true, true, true, false, false, false, false, false, false, false, false, false, false, false] rfl rfl (any_of HT_.out (by kernel_rfl)) (fun _ _ _ h => h) (Or.inr ⟨by rfl, rfl⟩) ?_ ?_
                                            rotate_left
                                            · simp only [Act.put, List.setIfInBounds_toArray, List.set_cons_zero, List.set_cons_succ, i64_w, i32_w]
                                              rfl
                                            refine pure_ (i := 19) (N := some 86) (v := undef) (a' := ?_) #[true, true, true, true, true, true, true, true, true, true, true, true, true, true, true, true, true, true, true, true, false, false, false, false, false, false, false, false, false, false] rfl rfl (any_of HT_.out (by kernel_rfl)) (fun _ _ _ h => h) (Or.inr ⟨by rfl, rfl⟩) ?_ ?_
                                            rotate_left
                                            · simp only [Act.put, List.setIfInBounds_toArray, List.set_cons_zero, List.set_cons_succ, i64_w, i32_w]
                                              rfl
                                            refine pure_ (i := 20) (N := some 87) (v := undef) (a' := ?_) #[true, true, true, true, true, true, true, true, true, true, true, true, true, true, true, true, true, true, true, true, true, false, false, false, false, false, false, false, false, false] rfl rfl (any_of HT_.out (by kernel_rfl)) (fun _ _ _ h => h) (Or.inr ⟨by rfl, rfl⟩) ?_ ?_
                                            rotate_left
                                            · simp only [Act.put, List.setIfInBounds_toArray, List.set_cons_zero, List.set_cons_succ, i64_w, i32_w]
                                              rfl
                                            refine pure_ (i := 21) (N := some 88) (v := undef) (a' := ?_) #[true, true, true, true, true, true, true, true, true, true, true, true, true, true, true, true, true, true, true, true, true, true, false, false, false, false, false, false, false, false] rfl rfl (any_of HT_.out (by kernel_rfl)) (fun _ _ _ h => h) (Or.inr ⟨by rfl, rfl⟩) ?_ ?_
                                            rotate_left
                                            · simp only [Act.put, List.setIfInBounds_toArray, List.set_cons_zero, List.set_cons_succ, i64_w, i32_w]
                                              rfl
                                            refine pure_ (i := 22) (N := some 89) (v := undef) (a' := ?_) #[true, true, true, true, true, true, true, true, true, true, true, true, true, true, true, true, true, true, true, true, true, true, true, false, false, false, false, false, false, false] rfl rfl (any_of HT_.out (by kernel_rfl)) (fun _ _ _ h => h) (Or.inr ⟨by rfl, rfl⟩) ?_ ?_
                                            rotate_left
                                            · simp only [Act.put, List.setIfInBounds_toArray, List.set_cons_zero, List.set_cons_succ, i64_w, i32_w]
                                              rfl
                                            refine pure_ (i := 23) (N := some 90) (v := undef) (a' := ?_) #[true, true, true, true, true, true, true, true, true, true, true, true, true, true, true, true, true, true, true, true, true, true, true, true, false, false, false, false, false, false] rfl rfl (any_of HT_.out (by kernel_rfl)) (fun _ _ _ h => h) (Or.inr ⟨by rfl, rfl⟩) ?_ ?_
                                            rotate_left
                                            · simp only [Act.put, List.setIfInBounds_toArray, List.set_cons_zero, List.set_cons_succ, i64_w, i32_w]
                                              rfl
                                            refine pure_ (i := 24) (N := some 91) (v := undef) (a' := ?_) #[true, true, true, true, true, true, true, true, true, true, true, true, true, true, true, true, true, true, true, true, true, true, true, true, true, false, false, false, false, false] rfl rfl (any_of HT_.out (by kernel_rfl)) (fun _ _ _ h => h) (Or.inr ⟨by rfl, rfl⟩) ?_ ?_
                                            rotate_left
                                            · simp only [Act.put, List.setIfInBounds_toArray, List.set_cons_zero, List.set_cons_succ, i64_w, i32_w]
                                              rfl
                                            refine pure_ (i := 25) (N := some 92) (v := undef) (a' := ?_) #[true, true, true, true, true, true, true, true, true, true, true, true, true, true, true, true, true, true, true, true, true, true, true, true, true, true, false, false, false, false] rfl rfl (any_of HT_.out (by kernel_rfl)) (fun _ _ _ h => h) (Or.inr ⟨by rfl, rfl⟩) ?_ ?_
                                            rotate_left
                                            · simp only [Act.put, List.setIfInBounds_toArray, List.set_cons_zero, List.set_cons_succ, i64_w, i32_w]
                                              rfl
                                            refine pure_ (i := 26) (N := some 93) (v := undef) (a' := ?_) #[true, true, true, true, true, true, true, true, true, true, true, true, true, true, true, true, true, true, true, true, true, true, true, true, true, true, true, false, false, false] rfl rfl (any_of HT_.out (by kernel_rfl)) (fun _ _ _ h => h) (Or.inr ⟨by rfl, rfl⟩) ?_ ?_
                                            rotate_left
                                            · simp only [Act.put, List.setIfInBounds_toArray, List.set_cons_zero, List.set_cons_succ, i64_w, i32_w]
                                              rfl
                                            refine pure_ (i := 27) (N := some 94) (v := undef) (a' := ?_) #[true, true, true, true, true, true, true, true, true, true, true, true, true, true, true, true, true, true, true, true, true, true, true, true, true, true, true, true, false, false] rfl rfl (any_of HT_.out (by kernel_rfl)) (fun _ _ _ h => h) (Or.inr ⟨by rfl, rfl⟩) ?_ ?_
                                            rotate_left
                                            · simp only [Act.put, List.setIfInBounds_toArray, List.set_cons_zero, List.set_cons_succ, i64_w, i32_w]
                                              rfl
                                            refine pure_ (i := 28) (N := some 95) (v := undef) (a' := ?_) #[true, true, true, true, true, true, true, true, true, true, true, true, true, true, true, true, true, true, true, true, true, true, true, true, true, true, true, true, true, false] rfl rfl (any_of HT_.out (by kernel_rfl)) (fun _ _ _ h => h) (Or.inr ⟨by rfl, rfl⟩) ?_ ?_
                                            rotate_left
                                            · simp only [Act.put, List.setIfInBounds_toArray, List.set_cons_zero, List.set_cons_succ, i64_w, i32_w]
                                              rfl
                                            refine pure_ (i := 29) (N := some 96) (v := ?_) (a' := ?_) #[true, true, true, true, true, true, true, true, true, true, true, true, true, true, true, true, true, true, true, true, true, true, true, true, true, true, true, true, true, true] rfl rfl (any_of HT_.out (by kernel_rfl)) (fun _ _ _ h => h) (Or.inl ⟨by rfl, ?_⟩) ?_ ?_
                                            rotate_left
                                            · intro w'
                                              go_simp
                                              with_reducible rfl
                                            rotate_left
                                            · simp only [Act.put, List.setIfInBounds_toArray, List.set_cons_zero, List.set_cons_succ, i64_w, i32_w]
                                              rfl
                                            refine done_ (done_of HT_.out (by kernel_rfl)) ?_
                                            try go_wp2
                                            go_meet
                                            case rel => exact ⟨_, (false), (by first | rfl | (simp; done) | (simp [*]; done)), H', ⟨by have := HK1.out; have := HK2.out; have := HJ13.out; have := HK4.out; first | omega | exact Nat.le_refl _⟩, ⟨by (with_reducible repeat (first | apply Kd.R_alloc | apply Kd.R_drewN | apply Kd.R_drew)); exact HO_7.out⟩, ⟨by (with_reducible repeat (first | refine blk_drewN ?_ _ | refine blk_drew ?_ | refine blk_alloc ?_ _)); exact BK316.out⟩, ⟨by repeat (first | (with_reducible first | exact HB.out | apply below_alloc | apply pw_below_drewN | apply below_drew1 | refine below_set ?_ GE316.out) | exact HB.out)⟩⟩
                                        case rest =>
                                          clear HC31
                                          try clear p2
                                          try clear c3
                                          try clear c4
                                          try clear p6
                                          try clear c32
                                          try clear c32b0
                                          try clear c33
                                          try clear c33b0
                                          try clear c35
                                          try clear c36
                                          try clear c39
                                          try clear c40
                                          obtain ⟨kq, x96_30, rfl, HA, HJ30, HO_7, BK316, HB⟩ := hcut
                                          cases kq with
                                          | zero => exact absurd HA.out (by simp [edits_Normal.j4])
                                          | succ kj30 =>
                                            have H := HA.out
                                            clear HA
                                            simp only [edits_Normal.j4] at H
                                            try simp only [ByteArray.size_extract, Nat.min_self] at H
                                            by_cases c45 : x96_30 = true
                                            · subst c45
                                              have H1 : (edits_Normal.l2 kj30 a0 x7_1 ((a0.extract (((rd_T42 l1 x21_1).f0) : Int).toNat (((rd_T42 l1 x21_1).f1) : Int).toNat).extract (x11_2 : Int).toNat (min (((rd_T42 l1 x21_1).f1) : Int).toNat a0.size - (((rd_T42 l1 x21_1).f0) : Int).toNat : Nat)) (wrap64 (x11_4 + 1)) l1 (l1.length : Int) x21_1 (wrap64 (((rd_T42 l1 x21_1).f0) + x11_2)) ((rd_T42 l1 x21_1).f1) (((rd_T42 l1 x21_1).f2).extract (x11_2 : Int).toNat ((rd_T42 l1 x21_1).f2).size)) = some (r1, r2) := by rw [if_pos rfl] at H; exact H
                                              clear H
                                              have H := H1
                                              clear H1
                                              have H' := Aside0.mk H
                                              clear H
                                              go_wp2
                                              go_roundg kj30
                                              case measure => have := HK1.out; have := HK2.out; have := HJ13.out; have := HK4.out; have := HJ30.out; omega
                                              case rel => exact ⟨(wrap64 (x11_4 + 1)), (by first | rfl | (simp; done) | (simp [*]; done)), H', ⟨by have := HK1.out; have := HK2.out; have := HJ13.out; have := HK4.out; have := HJ30.out; omega⟩, ⟨by (with_reducible repeat (first | apply Kd.R_alloc | apply Kd.R_drewN | apply Kd.R_drew)); exact HO_7.out⟩, ⟨by (with_reducible repeat (first | refine blk_drewN ?_ _ | refine blk_drew ?_ | refine blk_alloc ?_ _)); exact BK316.out⟩, ⟨by repeat (first | (with_reducible first | exact HB.out | apply below_alloc | apply pw_below_drewN | apply below_drew1 | refine below_set ?_ GE316.out) | exact HB.out)⟩⟩
                                            · replace c45 := Bool.eq_false_iff.mpr c45
                                              subst c45
                                              have H1 : (if 0 ≤ (wrap64 (((((rd_T42 l1 x21_1).f2).size - (x11_2 : Int).toNat : Nat) : Int) - x11_4)) then (if (wrap64 (((((rd_T42 l1 x21_1).f2).size - (x11_2 : Int).toNat : Nat) : Int) - x11_4)) ≤ ((((rd_T42 l1 x21_1).f2).size - (x11_2 : Int).toNat : Nat) : Int) then (if (wrap64 (((rd_T42 l1 x21_1).f0) + x11_2)) < (wrap64 (((rd_T42 l1 x21_1).f1) - x11_4)) then (if x7_1.length < 4398046511104 then (edits_Normal.l0 kj30 a0 (x7_1 ++ [(⟨(wrap64 (((rd_T42 l1 x21_1).f0) + x11_2)), wrap64 (((rd_T42 l1 x21_1).f1) - x11_4), (((rd_T42 l1 x21_1).f2).extract (x11_2 : Int).toNat ((rd_T42 l1 x21_1).f2).size).extract 0 ((wrap64 (((((rd_T42 l1 x21_1).f2).size - (x11_2 : Int).toNat : Nat) : Int) - x11_4)) : Int).toNat⟩ : S42)]) l1 (l1.length : Int) (wrap64 (x21_1 + 1))) else (none)) else (if ((((rd_T42 l1 x21_1).f2).extract (x11_2 : Int).toNat ((rd_T42 l1 x21_1).f2).size).extract 0 ((wrap64 (((((rd_T42 l1 x21_1).f2).size - (x11_2 : Int).toNat : Nat) : Int) - x11_4)) : Int).toNat).toList = ([] : List UInt8) then (edits_Normal.l0 kj30 a0 x7_1 l1 (l1.length : Int) (wrap64 (x21_1 + 1))) else (if x7_1.length < 4398046511104 then (edits_Normal.l0 kj30 a0 (x7_1 ++ [(⟨(wrap64 (((rd_T42 l1 x21_1).f0) + x11_2)), wrap64 (((rd_T42 l1 x21_1).f1) - x11_4), (((rd_T42 l1 x21_1).f2).extract (x11_2 : Int).toNat ((rd_T42 l1 x21_1).f2).size).extract 0 ((wrap64 (((((rd_T42 l1 x21_1).f2).size - (x11_2 : Int).toNat : Nat) : Int) - x11_4)) : Int).toNat⟩ : S42)]) l1 (l1.length : Int) (wrap64 (x21_1 + 1))) else (none)))) else (none)) else (none)) = some (r1, r2) := by rw [if_neg (show ¬ (false = true) by decide)] at H; exact H
                                              clear H
                                              have H := H1
                                              clear H1
                                              obtain ⟨ji46, hji46⟩ : ∃ j_ : Int, (wrap64 (((((rd_T42 l1 x21_1).f2).size - (x11_2 : Int).toNat : Nat) : Int) - x11_4)) = j_ := ⟨_, rfl⟩
                                              replace H : (if 0 ≤ (ji46) then (if (ji46) ≤ ((((rd_T42 l1 x21_1).f2).size - (x11_2 : Int).toNat : Nat) : Int) then (if (wrap64 (((rd_T42 l1 x21_1).f0) + x11_2)) < (wrap64 (((rd_T42 l1 x21_1).f1) - x11_4)) then (if x7_1.length < 4398046511104 then (edits_Normal.l0 kj30 a0 (x7_1 ++ [(⟨(wrap64 (((rd_T42 l1 x21_1).f0) + x11_2)), wrap64 (((rd_T42 l1 x21_1).f1) - x11_4), (((rd_T42 l1 x21_1).f2).extract (x11_2 : Int).toNat ((rd_T42 l1 x21_1).f2).size).extract 0 ((ji46) : Int).toNat⟩ : S42)]) l1 (l1.length : Int) (wrap64 (x21_1 + 1))) else (none)) else (if ((((rd_T42 l1 x21_1).f2).extract (x11_2 : Int).toNat ((rd_T42 l1 x21_1).f2).size).extract 0 ((ji46) : Int).toNat).toList = ([] : List UInt8) then (edits_Normal.l0 kj30 a0 x7_1 l1 (l1.length : Int) (wrap64 (x21_1 + 1))) else (if x7_1.length < 4398046511104 then (edits_Normal.l0 kj30 a0 (x7_1 ++ [(⟨(wrap64 (((rd_T42 l1 x21_1).f0) + x11_2)), wrap64 (((rd_T42 l1 x21_1).f1) - x11_4), (((rd_T42 l1 x21_1).f2).extract (x11_2 : Int).toNat ((rd_T42 l1 x21_1).f2).size).extract 0 ((ji46) : Int).toNat⟩ : S42)]) l1 (l1.length : Int) (wrap64 (x21_1 + 1))) else (none)))) else (none)) else (none)) = some (r1, r2) := by first | (rw [hji46] at H; exact H) | (simp only [hji46] at H ⊢; exact H)
                                              have hji46w : (IntKind.i64.wrap (((((rd_T42 l1 x21_1).f2).size - (x11_2 : Int).toNat : Nat) : Int) - x11_4)) = ji46 := (i64_w _).trans hji46
                                              by_cases c47 : 0 ≤ (ji46)
                                              · rw [if_pos c47] at H
                                                have c47b0 := eq_true c47
                                                have c47b1 : decide (0 ≤ (ji46)) = true := decide_eq_true c47
                                                clear c47
                                                by_cases c48 : (ji46) ≤ ((((rd_T42 l1 x21_1).f2).size - (x11_2 : Int).toNat : Nat) : Int)
                                                · rw [if_pos c48] at H
                                                  have c48b0 := eq_true c48
                                                  have c48b1 : decide ((ji46) ≤ ((((rd_T42 l1 x21_1).f2).size - (x11_2 : Int).toNat : Nat) : Int)) = true := decide_eq_true c48
                                                  try (have c48b1x := c48b1; simp only [ByteArray.size_extract, Nat.min_self] at c48b1x)
                                                  try (first | have c48b1y := eq_true (of_decide_eq_true c48b1x) | have c48b1y := eq_false (of_decide_eq_false c48b1x))
                                                  clear c48
                                                  by_cases c49 : (wrap64 (((rd_T42 l1 x21_1).f0) + x11_2)) < (wrap64 (((rd_T42 l1 x21_1).f1) - x11_4))
                                                  · rw [if_pos c49] at H
                                                    have c49b0 : decide ((wrap64 (((rd_T42 l1 x21_1).f0) + x11_2)) < (wrap64 (((rd_T42 l1 x21_1).f1) - x11_4))) = true := decide_eq_true c49
                                                    clear c49
                                                    by_cases c50 : x7_1.length < 4398046511104
                                                    · rw [if_pos c50] at H
                                                      have LMc50 := Aside0.mk c50
                                                      clear c50
                                                      obtain ⟨y317, hy317⟩ : ∃ y_ : List (S42), y_ = (x7_1 ++ [(⟨(wrap64 (((rd_T42 l1 x21_1).f0) + x11_2)), wrap64 (((rd_T42 l1 x21_1).f1) - x11_4), (((rd_T42 l1 x21_1).f2).extract (x11_2 : Int).toNat ((rd_T42 l1 x21_1).f2).size).extract 0 ((ji46) : Int).toNat⟩ : S42)]) := ⟨_, rfl⟩
                                                      replace H : (edits_Normal.l0 kj30 a0 y317 l1 (l1.length : Int) (wrap64 (x21_1 + 1))) = some (r1, r2) := by first | (rw [hy317]; with_reducible exact H) | (have H2_ := (Option.bind_some _ _).symm.trans H; rw [hy317]; with_reducible exact H2_) | (have H2_ := (Option.bind_some _ _).symm.trans H; with_reducible exact H2_) | with_reducible exact H | (rw [hy317]; exact H) | exact H
                                                      have Ny317 := Aside0.mk hy317
                                                      clear hy317
                                                      have H' := Aside0.mk H
                                                      clear H
                                                      have hcz51_0 : wc.cell? ⟨gb316, 0, none⟩ = some (.int .i64 (wrap64 (((rd_T42 l1 x21_1).f0) + x11_2))) := (blk_cell BK316.out 0).trans rfl
                                                      have hcz51_1 : wc.cell? ⟨gb316, 1, none⟩ = some (.int .i64 ((rd_T42 l1 x21_1).f1)) := (blk_cell BK316.out 1).trans rfl
                                                      have hcz51_2 : wc.cell? ⟨gb316, 2, none⟩ = some (.string (((rd_T42 l1 x21_1).f2).extract (x11_2 : Int).toNat ((rd_T42 l1 x21_1).f2).size)) := (blk_cell BK316.out 2).trans rfl
                                                      have hfz51_0 := blk_frozen BK316.out 0
                                                      have hfz51_1 := blk_frozen BK316.out 1
                                                      have hfz51_2 := blk_frozen BK316.out 2
                                                      go_wp2_with (first | ((with_reducible refine gate_builtin (b := .append) (xs := #[.tmp 123, .tmp 125]) rfl ?_); (try (refine gate_guard (by rfl) ?_; dsimp only)); at_builtin; refine Kd.R_append k42 (w0 := w) w.heap.size rfl (.tmp 123) (.tmp 125) 22 42 (.agg #[(.int .i64 0), (.int .i64 0), (.string ⟨#[]⟩)]) 32 rfl Try.underlying22 info42 rfl (by decide) (by omega) u7 x7_1 (⟨(wrap64 (((rd_T42 l1 x21_1).f0) + x11_2)), wrap64 (((rd_T42 l1 x21_1).f1) - x11_4), (((rd_T42 l1 x21_1).f2).extract (x11_2 : Int).toNat ((rd_T42 l1 x21_1).f2).size).extract 0 ((ji46) : Int).toNat⟩ : S42) [.int .i64 (wrap64 (((rd_T42 l1 x21_1).f0) + x11_2)), .int .i64 (wrap64 (((rd_T42 l1 x21_1).f1) - x11_4)), .string ((((rd_T42 l1 x21_1).f2).extract (x11_2 : Int).toNat ((rd_T42 l1 x21_1).f2).size).extract 0 ((ji46) : Int).toNat)] (fun k_ => k_ ≠ gb316) (fun _ => False) rfl (by first | (go_simp; done) | (go_simp; rfl)) ?aP (fun _ hk => hk.elim) ?aF ?aO ?aB ?aS ?aL ?_; (case aP => exact k42_mkM _ _ _ (⟨(wrap64 (((rd_T42 l1 x21_1).f0) + x11_2)), wrap64 (((rd_T42 l1 x21_1).f1) - x11_4), (((rd_T42 l1 x21_1).f2).extract (x11_2 : Int).toNat ((rd_T42 l1 x21_1).f2).size).extract 0 ((ji46) : Int).toNat⟩ : S42)); (case aB => exact (by repeat (first | (with_reducible first | exact HB.out | apply below_alloc | apply pw_below_drewN | apply below_drew1 | refine below_set ?_ GE316.out) | exact HB.out))); (case aF => exact (fun k_ hk => Kd.freshB (g := gb316) (o := .cells #[.int .i64 (wrap64 (((rd_T42 l1 x21_1).f0) + x11_2)), .int .i64 (wrap64 (((rd_T42 l1 x21_1).f1) - x11_4)), .string ((((rd_T42 l1 x21_1).f2).extract (x11_2 : Int).toNat ((rd_T42 l1 x21_1).f2).size).extract 0 ((ji46) : Int).toNat)] 42 (0, 0)) (by (with_reducible repeat (first | refine blk_drewN ?_ _ | refine blk_drew ?_ | refine blk_alloc ?_ _)); refine blk_put (cs := #[.int .i64 (wrap64 (((rd_T42 l1 x21_1).f0) + x11_2)), .int .i64 (wrap64 (((rd_T42 l1 x21_1).f1) - x11_4)), .string (((rd_T42 l1 x21_1).f2).extract (x11_2 : Int).toNat ((rd_T42 l1 x21_1).f2).size)]) ?_ 2 _ rfl; (with_reducible repeat (first | refine blk_drewN ?_ _ | refine blk_drew ?_ | refine blk_alloc ?_ _)); refine blk_put (cs := #[.int .i64 (wrap64 (((rd_T42 l1 x21_1).f0) + x11_2)), .int .i64 ((rd_T42 l1 x21_1).f1), .string (((rd_T42 l1 x21_1).f2).extract (x11_2 : Int).toNat ((rd_T42 l1 x21_1).f2).size)]) ?_ 1 _ rfl; (with_reducible repeat (first | refine blk_drewN ?_ _ | refine blk_drew ?_ | refine blk_alloc ?_ _)); exact BK316.out) k_ hk)); (case aO => exact (by (with_reducible repeat (first | apply Kd.R_alloc | apply Kd.R_drewN | apply Kd.R_drew)); exact Kd.R_mono (Kd.R_far (p := ⟨gb316, 2, none⟩) (Kd.R_far (p := ⟨gb316, 1, none⟩) (Kd.R_mono HO_7.out (fun k_ hk => (⟨hk, hk⟩ : _ ∧ k_ ≠ gb316))) (fun _ hk => hk.2) (.int .i64 (wrap64 (((rd_T42 l1 x21_1).f1) - x11_4)))) (fun _ hk => hk.2) (.string ((((rd_T42 l1 x21_1).f2).extract (x11_2 : Int).toNat ((rd_T42 l1 x21_1).f2).size).extract 0 ((ji46) : Int).toNat))) (fun _ hk => hk.1))); (case aS => exact (below_size (by repeat (first | (with_reducible first | exact HB.out | apply below_alloc | apply pw_below_drewN | apply below_drew1 | refine below_set ?_ GE316.out) | exact HB.out)))); (case aL => have := LMc50.out; omega); intro v318 w52 ho hb hg hat; rw [← Ny317.out] at ho; have n0_ := Aside0.mk (blk_grown (g := gb316) (o := .cells #[.int .i64 (wrap64 (((rd_T42 l1 x21_1).f0) + x11_2)), .int .i64 (wrap64 (((rd_T42 l1 x21_1).f1) - x11_4)), .string ((((rd_T42 l1 x21_1).f2).extract (x11_2 : Int).toNat ((rd_T42 l1 x21_1).f2).size).extract 0 ((ji46) : Int).toNat)] 42 (0, 0)) (by (with_reducible repeat (first | refine blk_drewN ?_ _ | refine blk_drew ?_ | refine blk_alloc ?_ _)); refine blk_put (cs := #[.int .i64 (wrap64 (((rd_T42 l1 x21_1).f0) + x11_2)), .int .i64 (wrap64 (((rd_T42 l1 x21_1).f1) - x11_4)), .string (((rd_T42 l1 x21_1).f2).extract (x11_2 : Int).toNat ((rd_T42 l1 x21_1).f2).size)]) ?_ 2 _ rfl; (with_reducible repeat (first | refine blk_drewN ?_ _ | refine blk_drew ?_ | refine blk_alloc ?_ _)); refine blk_put (cs := #[.int .i64 (wrap64 (((rd_T42 l1 x21_1).f0) + x11_2)), .int .i64 ((rd_T42 l1 x21_1).f1), .string (((rd_T42 l1 x21_1).f2).extract (x11_2 : Int).toNat ((rd_T42 l1 x21_1).f2).size)]) ?_ 1 _ rfl; (with_reducible repeat (first | refine blk_drewN ?_ _ | refine blk_drew ?_ | refine blk_alloc ?_ _)); exact BK316.out) hg (Kd.R_away HO_7.out (fun _ hk => hk))); have n1_ := Aside0.mk (hb); have n2_ := Aside0.mk (ho); clear BK316; clear HB; clear HO_7; have BK316 := n0_; have HB := n1_; have HO319 := n2_; clear n0_ n1_ n2_; clear ho hb hg hat))
                                                      go_roundg kj30
                                                      case measure => have := HK1.out; have := HK2.out; have := HJ13.out; have := HK4.out; have := HJ30.out; omega
                                                      case rel => exact ⟨(y317), (wrap64 (x21_1 + 1)), (by first | rfl | (simp; done) | (simp [*]; done)), H', ⟨by have := HK1.out; have := HK2.out; have := HJ13.out; have := HK4.out; have := HJ30.out; omega⟩, ⟨by (with_reducible repeat (first | apply Kd.R_alloc | apply Kd.R_drewN | apply Kd.R_drew)); exact Kd.R_mono HO319.out (fun _ hk => trivial)⟩, ⟨by repeat (first | (with_reducible first | exact HB.out | apply below_alloc | apply pw_below_drewN | apply below_drew1 | refine below_set ?_ GE316.out) | exact HB.out)⟩⟩
                                                    · rw [if_neg c50] at H
                                                      exact absurd H (by simp)
                                                  · rw [if_neg c49] at H
                                                    have c49b0 : decide ((wrap64 (((rd_T42 l1 x21_1).f0) + x11_2)) < (wrap64 (((rd_T42 l1 x21_1).f1) - x11_4))) = false := decide_eq_false c49
                                                    clear c49
                                                    by_cases c53 : ((((rd_T42 l1 x21_1).f2).extract (x11_2 : Int).toNat ((rd_T42 l1 x21_1).f2).size).extract 0 ((ji46) : Int).toNat).toList = ([] : List UInt8)
                                                    · rw [if_pos c53] at H
                                                      have c53b0 : (((((rd_T42 l1 x21_1).f2).extract (x11_2 : Int).toNat ((rd_T42 l1 x21_1).f2).size).extract 0 ((ji46) : Int).toNat).toList == ([] : List UInt8)) = true := beq_iff_eq.mpr c53
                                                      have c53b1 : (((((rd_T42 l1 x21_1).f2).extract (x11_2 : Int).toNat ((rd_T42 l1 x21_1).f2).size).extract 0 ((ji46) : Int).toNat).toList != ([] : List UInt8)) = false := bne_eq_false_iff_eq.mpr c53
                                                      clear c53
                                                      have H' := Aside0.mk H
                                                      clear H
                                                      have hcz54_0 : wc.cell? ⟨gb316, 0, none⟩ = some (.int .i64 (wrap64 (((rd_T42 l1 x21_1).f0) + x11_2))) := (blk_cell BK316.out 0).trans rfl
                                                      have hcz54_1 : wc.cell? ⟨gb316, 1, none⟩ = some (.int .i64 ((rd_T42 l1 x21_1).f1)) := (blk_cell BK316.out 1).trans rfl
                                                      have hcz54_2 : wc.cell? ⟨gb316, 2, none⟩ = some (.string (((rd_T42 l1 x21_1).f2).extract (x11_2 : Int).toNat ((rd_T42 l1 x21_1).f2).size)) := (blk_cell BK316.out 2).trans rfl
                                                      have hfz54_0 := blk_frozen BK316.out 0
                                                      have hfz54_1 := blk_frozen BK316.out 1
                                                      have hfz54_2 := blk_frozen BK316.out 2
                                                      go_wp2
                                                      go_roundg kj30
                                                      case measure => have := HK1.out; have := HK2.out; have := HJ13.out; have := HK4.out; have := HJ30.out; omega
                                                      case rel => exact ⟨(x7_1), (wrap64 (x21_1 + 1)), (by first | rfl | (simp; done) | (simp [*]; done)), H', ⟨by have := HK1.out; have := HK2.out; have := HJ13.out; have := HK4.out; have := HJ30.out; omega⟩, ⟨by (with_reducible repeat (first | apply Kd.R_alloc | apply Kd.R_drewN | apply Kd.R_drew)); exact Kd.R_mono (Kd.R_far (p := ⟨gb316, 2, none⟩) (Kd.R_far (p := ⟨gb316, 1, none⟩) (Kd.R_mono HO_7.out (fun k_ hk => (⟨hk, hk⟩ : _ ∧ k_ ≠ gb316))) (fun _ hk => hk.2) (.int .i64 (wrap64 (((rd_T42 l1 x21_1).f1) - x11_4)))) (fun _ hk => hk.2) (.string ((((rd_T42 l1 x21_1).f2).extract (x11_2 : Int).toNat ((rd_T42 l1 x21_1).f2).size).extract 0 ((ji46) : Int).toNat))) (fun _ hk => trivial)⟩, ⟨by repeat (first | (with_reducible first | exact HB.out | apply below_alloc | apply pw_below_drewN | apply below_drew1 | refine below_set ?_ GE316.out) | exact HB.out)⟩⟩
                                                    · rw [if_neg c53] at H
                                                      have c53b0 : (((((rd_T42 l1 x21_1).f2).extract (x11_2 : Int).toNat ((rd_T42 l1 x21_1).f2).size).extract 0 ((ji46) : Int).toNat).toList == ([] : List UInt8)) = false := beq_eq_false_iff_ne.mpr c53
                                                      have c53b1 : (((((rd_T42 l1 x21_1).f2).extract (x11_2 : Int).toNat ((rd_T42 l1 x21_1).f2).size).extract 0 ((ji46) : Int).toNat).toList != ([] : List UInt8)) = true := bne_iff_ne.mpr c53
                                                      by_cases c55 : x7_1.length < 4398046511104
                                                      · rw [if_pos c55] at H
                                                        have LMc55 := Aside0.mk c55
                                                        clear c55
                                                        obtain ⟨y320, hy320⟩ : ∃ y_ : List (S42), y_ = (x7_1 ++ [(⟨(wrap64 (((rd_T42 l1 x21_1).f0) + x11_2)), wrap64 (((rd_T42 l1 x21_1).f1) - x11_4), (((rd_T42 l1 x21_1).f2).extract (x11_2 : Int).toNat ((rd_T42 l1 x21_1).f2).size).extract 0 ((ji46) : Int).toNat⟩ : S42)]) := ⟨_, rfl⟩
                                                        replace H : (edits_Normal.l0 kj30 a0 y320 l1 (l1.length : Int) (wrap64 (x21_1 + 1))) = some (r1, r2) := by first | (rw [hy320]; with_reducible exact H) | (have H2_ := (Option.bind_some _ _).symm.trans H; rw [hy320]; with_reducible exact H2_) | (have H2_ := (Option.bind_some _ _).symm.trans H; with_reducible exact H2_) | with_reducible exact H | (rw [hy320]; exact H) | exact H
                                                        have Ny320 := Aside0.mk hy320
                                                        clear hy320
                                                        have H' := Aside0.mk H
                                                        clear H
                                                        have hcz56_0 : wc.cell? ⟨gb316, 0, none⟩ = some (.int .i64 (wrap64 (((rd_T42 l1 x21_1).f0) + x11_2))) := (blk_cell BK316.out 0).trans rfl
                                                        have hcz56_1 : wc.cell? ⟨gb316, 1, none⟩ = some (.int .i64 ((rd_T42 l1 x21_1).f1)) := (blk_cell BK316.out 1).trans rfl
                                                        have hcz56_2 : wc.cell? ⟨gb316, 2, none⟩ = some (.string (((rd_T42 l1 x21_1).f2).extract (x11_2 : Int).toNat ((rd_T42 l1 x21_1).f2).size)) := (blk_cell BK316.out 2).trans rfl
                                                        have hfz56_0 := blk_frozen BK316.out 0
                                                        have hfz56_1 := blk_frozen BK316.out 1
                                                        have hfz56_2 := blk_frozen BK316.out 2
                                                        go_wp2_with (first | ((with_reducible refine gate_builtin (b := .append) (xs := #[.tmp 123, .tmp 125]) rfl ?_); (try (refine gate_guard (by rfl) ?_; dsimp only)); at_builtin; refine Kd.R_append k42 (w0 := w) w.heap.size rfl (.tmp 123) (.tmp 125) 22 42 (.agg #[(.int .i64 0), (.int .i64 0), (.string ⟨#[]⟩)]) 32 rfl Try.underlying22 info42 rfl (by decide) (by omega) u7 x7_1 (⟨(wrap64 (((rd_T42 l1 x21_1).f0) + x11_2)), wrap64 (((rd_T42 l1 x21_1).f1) - x11_4), (((rd_T42 l1 x21_1).f2).extract (x11_2 : Int).toNat ((rd_T42 l1 x21_1).f2).size).extract 0 ((ji46) : Int).toNat⟩ : S42) [.int .i64 (wrap64 (((rd_T42 l1 x21_1).f0) + x11_2)), .int .i64 (wrap64 (((rd_T42 l1 x21_1).f1) - x11_4)), .string ((((rd_T42 l1 x21_1).f2).extract (x11_2 : Int).toNat ((rd_T42 l1 x21_1).f2).size).extract 0 ((ji46) : Int).toNat)] (fun k_ => k_ ≠ gb316) (fun _ => False) rfl (by first | (go_simp; done) | (go_simp; rfl)) ?aP (fun _ hk => hk.elim) ?aF ?aO ?aB ?aS ?aL ?_; (case aP => exact k42_mkM _ _ _ (⟨(wrap64 (((rd_T42 l1 x21_1).f0) + x11_2)), wrap64 (((rd_T42 l1 x21_1).f1) - x11_4), (((rd_T42 l1 x21_1).f2).extract (x11_2 : Int).toNat ((rd_T42 l1 x21_1).f2).size).extract 0 ((ji46) : Int).toNat⟩ : S42)); (case aB => exact (by repeat (first | (with_reducible first | exact HB.out | apply below_alloc | apply pw_below_drewN | apply below_drew1 | refine below_set ?_ GE316.out) | exact HB.out))); (case aF => exact (fun k_ hk => Kd.freshB (g := gb316) (o := .cells #[.int .i64 (wrap64 (((rd_T42 l1 x21_1).f0) + x11_2)), .int .i64 (wrap64 (((rd_T42 l1 x21_1).f1) - x11_4)), .string ((((rd_T42 l1 x21_1).f2).extract (x11_2 : Int).toNat ((rd_T42 l1 x21_1).f2).size).extract 0 ((ji46) : Int).toNat)] 42 (0, 0)) (by (with_reducible repeat (first | refine blk_drewN ?_ _ | refine blk_drew ?_ | refine blk_alloc ?_ _)); refine blk_put (cs := #[.int .i64 (wrap64 (((rd_T42 l1 x21_1).f0) + x11_2)), .int .i64 (wrap64 (((rd_T42 l1 x21_1).f1) - x11_4)), .string (((rd_T42 l1 x21_1).f2).extract (x11_2 : Int).toNat ((rd_T42 l1 x21_1).f2).size)]) ?_ 2 _ rfl; (with_reducible repeat (first | refine blk_drewN ?_ _ | refine blk_drew ?_ | refine blk_alloc ?_ _)); refine blk_put (cs := #[.int .i64 (wrap64 (((rd_T42 l1 x21_1).f0) + x11_2)), .int .i64 ((rd_T42 l1 x21_1).f1), .string (((rd_T42 l1 x21_1).f2).extract (x11_2 : Int).toNat ((rd_T42 l1 x21_1).f2).size)]) ?_ 1 _ rfl; (with_reducible repeat (first | refine blk_drewN ?_ _ | refine blk_drew ?_ | refine blk_alloc ?_ _)); exact BK316.out) k_ hk)); (case aO => exact (by (with_reducible repeat (first | apply Kd.R_alloc | apply Kd.R_drewN | apply Kd.R_drew)); exact Kd.R_mono (Kd.R_far (p := ⟨gb316, 2, none⟩) (Kd.R_far (p := ⟨gb316, 1, none⟩) (Kd.R_mono HO_7.out (fun k_ hk => (⟨hk, hk⟩ : _ ∧ k_ ≠ gb316))) (fun _ hk => hk.2) (.int .i64 (wrap64 (((rd_T42 l1 x21_1).f1) - x11_4)))) (fun _ hk => hk.2) (.string ((((rd_T42 l1 x21_1).f2).extract (x11_2 : Int).toNat ((rd_T42 l1 x21_1).f2).size).extract 0 ((ji46) : Int).toNat))) (fun _ hk => hk.1))); (case aS => exact (below_size (by repeat (first | (with_reducible first | exact HB.out | apply below_alloc | apply pw_below_drewN | apply below_drew1 | refine below_set ?_ GE316.out) | exact HB.out)))); (case aL => have := LMc55.out; omega); intro v321 w57 ho hb hg hat; rw [← Ny320.out] at ho; have n0_ := Aside0.mk (blk_grown (g := gb316) (o := .cells #[.int .i64 (wrap64 (((rd_T42 l1 x21_1).f0) + x11_2)), .int .i64 (wrap64 (((rd_T42 l1 x21_1).f1) - x11_4)), .string ((((rd_T42 l1 x21_1).f2).extract (x11_2 : Int).toNat ((rd_T42 l1 x21_1).f2).size).extract 0 ((ji46) : Int).toNat)] 42 (0, 0)) (by (with_reducible repeat (first | refine blk_drewN ?_ _ | refine blk_drew ?_ | refine blk_alloc ?_ _)); refine blk_put (cs := #[.int .i64 (wrap64 (((rd_T42 l1 x21_1).f0) + x11_2)), .int .i64 (wrap64 (((rd_T42 l1 x21_1).f1) - x11_4)), .string (((rd_T42 l1 x21_1).f2).extract (x11_2 : Int).toNat ((rd_T42 l1 x21_1).f2).size)]) ?_ 2 _ rfl; (with_reducible repeat (first | refine blk_drewN ?_ _ | refine blk_drew ?_ | refine blk_alloc ?_ _)); refine blk_put (cs := #[.int .i64 (wrap64 (((rd_T42 l1 x21_1).f0) + x11_2)), .int .i64 ((rd_T42 l1 x21_1).f1), .string (((rd_T42 l1 x21_1).f2).extract (x11_2 : Int).toNat ((rd_T42 l1 x21_1).f2).size)]) ?_ 1 _ rfl; (with_reducible repeat (first | refine blk_drewN ?_ _ | refine blk_drew ?_ | refine blk_alloc ?_ _)); exact BK316.out) hg (Kd.R_away HO_7.out (fun _ hk => hk))); have n1_ := Aside0.mk (hb); have n2_ := Aside0.mk (ho); clear BK316; clear HB; clear HO_7; have BK316 := n0_; have HB := n1_; have HO322 := n2_; clear n0_ n1_ n2_; clear ho hb hg hat))
                                                        go_roundg kj30
                                                        case measure => have := HK1.out; have := HK2.out; have := HJ13.out; have := HK4.out; have := HJ30.out; omega
                                                        case rel => exact ⟨(y320), (wrap64 (x21_1 + 1)), (by first | rfl | (simp; done) | (simp [*]; done)), H', ⟨by have := HK1.out; have := HK2.out; have := HJ13.out; have := HK4.out; have := HJ30.out; omega⟩, ⟨by (with_reducible repeat (first | apply Kd.R_alloc | apply Kd.R_drewN | apply Kd.R_drew)); exact Kd.R_mono HO322.out (fun _ hk => trivial)⟩, ⟨by repeat (first | (with_reducible first | exact HB.out | apply below_alloc | apply pw_below_drewN | apply below_drew1 | refine below_set ?_ GE316.out) | exact HB.out)⟩⟩
                                                      · rw [if_neg c55] at H
                                                        exact absurd H (by simp)
                                                · rw [if_neg c48] at H
                                                  exact absurd H (by simp)
                                              · rw [if_neg c47] at H
                                                exact absurd H (by simp)
                                  · rw [if_neg c27] at H
                                    exact absurd H (by simp)
                                · rw [if_neg c25] at H
                                  exact absurd H (by simp)
                              · rw [if_neg c24] at H
                                exact absurd H (by simp)
                  · rw [if_neg c11] at H
                    exact absurd H (by simp)
                · rw [if_neg c10] at H
                  exact absurd H (by simp)
              · rw [if_neg c9] at H
                exact absurd H (by simp)
            · rw [if_neg c8] at H
              exact absurd H (by simp)
          · rw [if_neg c7] at H
            exact absurd H (by simp)
        · rw [if_neg c6] at H
          have c6b0 : decide (x21_1 < (l1.length : Int)) = false := decide_eq_false c6
          clear c6
          simp only [Option.some.injEq, Prod.mk.injEq] at H
          obtain ⟨rfl, rfl⟩ := H
          go_wp2
          go_ret2
          exact ⟨_, by first | rfl | (simp [errW_none, errW_some] <;> rfl) | (simp [*, errW_none, errW_some] <;> rfl), by (with_reducible repeat (first | apply Kd.R_alloc | apply Kd.R_drewN | apply Kd.R_drew)); exact HO_7.out, by repeat (first | (with_reducible first | exact HB.out | apply below_alloc | apply pw_below_drewN | apply below_drew1) | exact HB.out)⟩
  · rw [if_neg c4] at H
    have c4b0 : (t314 == 0) = false := beq_eq_false_iff_ne.mpr c4
    have c4b1 : (t314 != 0) = true := bne_iff_ne.mpr c4
    simp only [Option.some.injEq, Prod.mk.injEq] at H
    obtain ⟨rfl, rfl⟩ := H
    go_enter Try.func26, Try.ntmps26
    go_wp2_with (first | ((with_reducible refine gate_callee (f := 32) rfl ?_); refine goesL_ (some 15) rfl rfl Try.func32 (by kernel_rfl) rfl #[.int .i64 (a0.size : Int), .slice A1 l1.length c1] rfl (by (try simp only [List.map_toArray, List.map_cons, List.map_nil]); first | done | rfl | (simp only [List.length_drop, List.length_take]; rfl)) ?_; (with_reducible refine (edits_valid.calls k (a0.size : Int) _ _ l1 t314 _ ?side1 ?side2 A3.out).mono ?_); (case side1 => repeat (first | exact HR1.out | (with_reducible refine Kd.C_alloc ?_ _) | (with_reducible refine Kd.C_drewN ?_ _) | (with_reducible refine Kd.C_drew ?_))); (case side2 => exact HC1.out); rintro e w58 ⟨rfl, hb⟩; refine ⟨_, rfl, ?_⟩; have n0_ := Aside0.mk (below_step (by repeat (first | (with_reducible first | exact HB.out | apply below_alloc | apply pw_below_drewN | apply below_drew1) | exact HB.out)) hb); clear HB; have HB := n0_; clear n0_; (try clear hb); (try clear hb2); (try clear hk); (try clear hi)))
    go_ret2
    exact ⟨_, by first | rfl | (simp [errW_none, errW_some] <;> rfl) | (simp [*, errW_none, errW_some] <;> rfl), by first | exact Kd.R_nil _ _ _ _ _ | exact Kd.N_nil _ _ _ _ _ | exact Kd.V_nil _ _ _ _ _ | exact Kd.Q_nil _ _ _ _ _ | exact Kd.S_nil _ _ _ _ _, by repeat (first | (with_reducible first | exact HB.out | apply below_alloc | apply pw_below_drewN | apply below_drew1) | exact HB.out)⟩

end Go.Proofs.Ytaihajmdngoeiaa.F

namespace Go.Proofs.Ytaihajmdngoeiaa.Q
open Go.RowKit Go.Proofs.YtaihajmdngoeiaaW.PrintWords Go.Proofs.YtaihajmdngoeiaaW.PrintLast Go.Proofs.YtaihajmdngoeiaaW.PrintMore
open Go.Proofs.Ytaihajmdngoeiaa.F

theorem bt_in (s : ByteArray) (i : Nat) (h : i < s.size) : bt s (i : Int) = ((s[i]'h).toNat : Int) := (bt_at s (i : Int) (by simpa using h)).symm
theorem bt_cut (s : ByteArray) (a b i : Nat) (h : i < (s.extract a b).size) : bt (s.extract a b) (i : Int) = bt s ((a + i : Nat) : Int) := by
  have h2 : a + i < s.size := by rw [ByteArray.size_extract] at h; omega
  rw [bt_in _ _ h, bt_in _ _ h2, ByteArray.getElem_extract]
theorem toList_nil (s : ByteArray) : s.toList = ([] : List UInt8) ↔ s.size = 0 := by
  rw [Lib.toList_data, Lib.size_eq]
  constructor
  · intro h; rw [h]; rfl
  · intro h; exact List.eq_nil_of_length_eq_zero h

/-- The first number from i on, of m at most, at which P does not hold. -/
def cnt (P : Nat → Bool) : Nat → Nat → Nat
  | 0, i => i
  | m + 1, i => if P i = true then cnt P m (i + 1) else i
theorem cnt_spec (P : Nat → Bool) (M : Nat) (hM : ∀ i, P i = true → i < M) : ∀ m i, M ≤ i + m → (∀ j, i ≤ j → j < cnt P m i → P j = true) ∧ P (cnt P m i) = false ∧ i ≤ cnt P m i
  | 0, i, h => by
    refine ⟨fun j h1 h2 => by simp only [cnt] at h2; omega, ?_, Nat.le_refl _⟩
    simp only [cnt]
    cases hp : P i
    · rfl
    · have := hM i hp; omega
  | m + 1, i, h => by
    simp only [cnt]
    cases hp : P i
    · rw [if_neg (by simp)]
      exact ⟨fun j h1 h2 => by omega, hp, Nat.le_refl _⟩
    · rw [if_pos rfl]
      obtain ⟨h1, h2, h3⟩ := cnt_spec P M hM m (i + 1) (by omega)
      refine ⟨fun j hj1 hj2 => ?_, h2, by omega⟩
      rcases Nat.lt_or_ge i j with h | h
      · exact h1 j h hj2
      · obtain rfl : i = j := by omega
        exact hp

theorem wsub (a j : Nat) (h : j < a) (ha : a ≤ 140737488351232) : wrap64 (wrap64 ((a : Int) - 1) - (j : Int)) = ((a - 1 - j : Nat) : Int) := by rw [w64 (x := (a : Int) - 1) (by omega) (by omega), w64] <;> omega
theorem wsucc (j : Nat) (ha : j ≤ 140737488351232) : wrap64 ((j : Int) + 1) = ((j + 1 : Nat) : Int) := by rw [w64] <;> omega
theorem bt_back (s : ByteArray) (f t j : Nat) (hts : t ≤ s.size) (h : j < t - f) : bt (s.extract f t) ((t - f - 1 - j : Nat) : Int) = bt s ((t - 1 - j : Nat) : Int) := by
  rw [bt_cut _ _ _ _ (by rw [ByteArray.size_extract]; omega), show f + (t - f - 1 - j) = t - 1 - j by omega]
def preB (s x : ByteArray) (f t i : Nat) : Bool := decide (i < t - f) && (decide (i < x.size) && (bt s ((f + i : Nat) : Int) == bt x (i : Int)))
def sufB (s x : ByteArray) (f t i : Nat) : Bool := decide (i < t - f) && (decide (i < x.size) && (bt s ((t - 1 - i : Nat) : Int) == bt x ((x.size - 1 - i : Nat) : Int)))
def preN (s x : ByteArray) (f t : Nat) : Nat := cnt (preB s x f t) (t - f) 0
def sufN (s x : ByteArray) (f t : Nat) : Nat := cnt (sufB s x f t) (t - f) 0
theorem pre_spec (s x : ByteArray) (f t : Nat) : (∀ j, j < preN s x f t → preB s x f t j = true) ∧ preB s x f t (preN s x f t) = false := by
  obtain ⟨h1, h2, _⟩ := cnt_spec (preB s x f t) (t - f) (fun i h => by unfold preB at h; simp at h; omega) (t - f) 0 (by omega)
  exact ⟨fun j hj => h1 j (Nat.zero_le _) hj, h2⟩
theorem suf_spec (s x : ByteArray) (f t : Nat) : (∀ j, j < sufN s x f t → sufB s x f t j = true) ∧ sufB s x f t (sufN s x f t) = false := by
  obtain ⟨h1, h2, _⟩ := cnt_spec (sufB s x f t) (t - f) (fun i h => by unfold sufB at h; simp at h; omega) (t - f) 0 (by omega)
  exact ⟨fun j hj => h1 j (Nat.zero_le _) hj, h2⟩
theorem pre_le (s x : ByteArray) (f t : Nat) : preN s x f t ≤ t - f ∧ preN s x f t ≤ x.size := by
  rcases Nat.eq_zero_or_pos (preN s x f t) with h | h
  · omega
  · have := (pre_spec s x f t).1 (preN s x f t - 1) (by omega)
    unfold preB at this
    simp at this
    omega
theorem suf_le (s x : ByteArray) (f t : Nat) : sufN s x f t ≤ t - f ∧ sufN s x f t ≤ x.size := by
  rcases Nat.eq_zero_or_pos (sufN s x f t) with h | h
  · omega
  · have := (suf_spec s x f t).1 (sufN s x f t - 1) (by omega)
    unfold sufB at this
    simp at this
    omega

/-- What is left of an edit of the places f to t. -/
def cutE (f t : Nat) (x : ByteArray) (q : Nat) : List S42 := if (f : Int) < ((t - q : Nat) : Int) ∨ ¬ (x.extract 0 (x.size - q)).toList = ([] : List UInt8) then [⟨(f : Int), ((t - q : Nat) : Int), x.extract 0 (x.size - q)⟩] else []
def normE (s x : ByteArray) (f t : Nat) : List S42 :=
  cutE (f + preN s x f t) t (x.extract (preN s x f t) x.size) (sufN s (x.extract (preN s x f t) x.size) (f + preN s x f t) t)
theorem normE_len (s x : ByteArray) (f t : Nat) : (normE s x f t).length ≤ 1 := by unfold normE cutE; split <;> simp

section
variable (s : ByteArray) (hs : s.size ≤ 140737488351232) (l : List S42) (x : ByteArray) (hx : x.size ≤ 140737488351232) (f t : Nat) (hft : f ≤ t) (hts : t ≤ s.size) (r : List S42 × Int)
include hs hx hft hts

theorem e_l2 (out : List S42) (i : Int) (ho : out.length < 4398046511104) (hr : Ev (fun k => edits_Normal.l0 k s (out ++ cutE f t x (sufN s x f t)) l (l.length : Int) (wrap64 (i + 1))) r) :
    ∀ d j, j ≤ sufN s x f t → sufN s x f t - j = d → Ev (fun k => edits_Normal.l2 k s out (s.extract f t) (j : Int) l (l.length : Int) i (f : Int) (t : Int) x) r := by
  have hsz : (s.extract f t).size = t - f := by rw [ByteArray.size_extract]; omega
  obtain ⟨hl1, hl2⟩ := suf_le s x f t
  obtain ⟨sp1, sp2⟩ := suf_spec s x f t
  generalize sufN s x f t = q at *
  have hfin : ∀ k, edits_Normal.j4 (k + 1) s out (s.extract f t) (q : Int) l (l.length : Int) i false (f : Int) (t : Int) x = edits_Normal.l0 k s (out ++ cutE f t x q) l (l.length : Int) (wrap64 (i + 1)) := by
    intro k
    have e1 := Aside0.mk (show wrap64 ((x.size : Int) - (q : Int)) = ((x.size - q : Nat) : Int) from by rw [w64] <;> omega)
    have e2 := Aside0.mk (show wrap64 ((t : Int) - (q : Int)) = ((t - q : Nat) : Int) from by rw [w64] <;> omega)
    simp only [edits_Normal.j4, e1.out, e2.out, Int.toNat_natCast]
    rw [if_neg (by simp), if_pos (by omega), if_pos (by omega)]
    unfold cutE
    by_cases c1 : (f : Int) < ((t - q : Nat) : Int)
    · rw [if_pos c1, if_pos ho, if_pos (.inl c1)]
    · rw [if_neg c1]
      by_cases c2 : (x.extract 0 (x.size - q)).toList = ([] : List UInt8)
      · rw [if_pos c2, if_neg (fun h => h.elim c1 (fun h => h c2)), List.append_nil]
      · rw [if_neg c2, if_pos ho, if_pos (.inr c2)]
  intro d
  induction d with
  | zero =>
    intro j h1 h2
    obtain rfl : j = q := by omega
    obtain ⟨K, hK⟩ := hr
    unfold sufB at sp2
    have hc : (j : Int) < ((t - f : Nat) : Int) → (j : Int) < (x.size : Int) → bt s ((t - 1 - j : Nat) : Int) ≠ bt x ((x.size - 1 - j : Nat) : Int) := by
      intro a b c
      simp only [c, beq_self_eq_true, Bool.and_true, Bool.and_eq_false_iff, decide_eq_false_iff_not] at sp2
      clear c
      omega
    have HC := Aside0.mk hc
    clear hc sp2
    refine ⟨K + 2, fun n hn => ?_⟩
    obtain ⟨k, rfl⟩ : ∃ m, n = m + 2 := ⟨n - 2, by omega⟩
    have g := hK k (by omega)
    simp only at g
    simp only [edits_Normal.l2, hsz]
    by_cases a : (j : Int) < ((t - f : Nat) : Int)
    · rw [if_pos a]
      by_cases b : (j : Int) < (x.size : Int)
      · have A0 : j < t - f := by omega
        have B0 : j < x.size := by omega
        have e1 := Aside0.mk (show wrap64 (wrap64 (((t - f : Nat) : Int) - 1) - (j : Int)) = ((t - f - 1 - j : Nat) : Int) from wsub (t - f) j A0 (by omega))
        have e2 := Aside0.mk (show wrap64 (wrap64 ((x.size : Int) - 1) - (j : Int)) = ((x.size - 1 - j : Nat) : Int) from wsub x.size j B0 hx)
        have e3 : bt (s.extract f t) ((t - f - 1 - j : Nat) : Int) = bt s ((t - 1 - j : Nat) : Int) := bt_back s f t j hts A0
        rw [if_pos b, e1.out, e2.out, if_pos (by omega), if_pos (by omega), if_pos (by omega), if_pos (by omega), e3, show (bt s ((t - 1 - j : Nat) : Int) == bt x ((x.size - 1 - j : Nat) : Int)) = false by simpa using HC.out a b, hfin]
        exact g
      · rw [if_neg b, hfin]
        exact g
    · rw [if_neg a, hfin]
      exact g
  | succ d ih =>
    intro j h1 h2
    obtain ⟨K, hK⟩ := ih (j + 1) (by omega) (by omega)
    have hp := sp1 j (by omega)
    unfold sufB at hp
    simp only [Bool.and_eq_true, decide_eq_true_eq] at hp
    obtain ⟨a, b, c⟩ := hp
    have C := Aside0.mk c
    clear c ih hr sp1 sp2
    have A0 : j < t - f := a
    have B0 : j < x.size := b
    have hw := Aside0.mk (show wrap64 ((j : Int) + 1) = ((j + 1 : Nat) : Int) from wsucc j (by omega))
    have e1 := Aside0.mk (show wrap64 (wrap64 (((t - f : Nat) : Int) - 1) - (j : Int)) = ((t - f - 1 - j : Nat) : Int) from wsub (t - f) j A0 (by omega))
    have e2 := Aside0.mk (show wrap64 (wrap64 ((x.size : Int) - 1) - (j : Int)) = ((x.size - 1 - j : Nat) : Int) from wsub x.size j B0 hx)
    have e3 : bt (s.extract f t) ((t - f - 1 - j : Nat) : Int) = bt s ((t - 1 - j : Nat) : Int) := bt_back s f t j hts A0
    have a' : (j : Int) < ((t - f : Nat) : Int) := by omega
    have b' : (j : Int) < (x.size : Int) := by omega
    have b1 : (0 : Int) ≤ ((t - f - 1 - j : Nat) : Int) := by omega
    have b2 : ((t - f - 1 - j : Nat) : Int) < ((t - f : Nat) : Int) := by omega
    have b3 : (0 : Int) ≤ ((x.size - 1 - j : Nat) : Int) := by omega
    have b4 : ((x.size - 1 - j : Nat) : Int) < (x.size : Int) := by omega
    refine ⟨K + 2, fun n hn => ?_⟩
    obtain ⟨k, rfl⟩ : ∃ m, n = m + 2 := ⟨n - 2, by omega⟩
    have g := hK k (by omega)
    simp only at g
    simp only [edits_Normal.l2, hsz]
    rw [if_pos a', if_pos b', e1.out, e2.out, if_pos b1, if_pos b2, if_pos b3, if_pos b4, e3, C.out]
    simp only [edits_Normal.j4, hw.out]
    rw [if_pos trivial]
    exact g

theorem e_l1 (out : List S42) (i : Int)
    (hr : Ev (fun k => edits_Normal.l2 k s out (s.extract (f + preN s x f t) t) 0 l (l.length : Int) i ((f + preN s x f t : Nat) : Int) (t : Int) (x.extract (preN s x f t) x.size)) r) :
    ∀ d j, j ≤ preN s x f t → preN s x f t - j = d → Ev (fun k => edits_Normal.l1 k s out (s.extract f t) (j : Int) l (l.length : Int) i (f : Int) (t : Int) x) r := by
  have hsz : (s.extract f t).size = t - f := by rw [ByteArray.size_extract]; omega
  obtain ⟨hl1, hl2⟩ := pre_le s x f t
  obtain ⟨sp1, sp2⟩ := pre_spec s x f t
  generalize preN s x f t = q at *
  have hfin : ∀ k, edits_Normal.j2 (k + 1) s out (s.extract f t) (q : Int) l (l.length : Int) i false (f : Int) (t : Int) x = edits_Normal.l2 k s out (s.extract (f + q) t) 0 l (l.length : Int) i ((f + q : Nat) : Int) (t : Int) (x.extract q x.size) := by
    intro k
    have e1 := Aside0.mk (show wrap64 ((f : Int) + (q : Int)) = ((f + q : Nat) : Int) from by rw [w64] <;> omega)
    simp only [edits_Normal.j2, hsz, e1.out, Int.toNat_natCast]
    rw [if_neg (by simp), if_pos (by omega), if_pos (by omega), if_pos (by omega), ByteArray.extract_extract, show min (f + (t - f)) t = t by omega]
  intro d
  induction d with
  | zero =>
    intro j h1 h2
    obtain rfl : j = q := by omega
    obtain ⟨K, hK⟩ := hr
    unfold preB at sp2
    have hc : (j : Int) < ((t - f : Nat) : Int) → (j : Int) < (x.size : Int) → bt s ((f + j : Nat) : Int) ≠ bt x (j : Int) := by
      intro a b c
      simp only [c, beq_self_eq_true, Bool.and_true, Bool.and_eq_false_iff, decide_eq_false_iff_not] at sp2
      clear c
      omega
    have HC := Aside0.mk hc
    clear hc sp2
    refine ⟨K + 2, fun n hn => ?_⟩
    obtain ⟨k, rfl⟩ : ∃ m, n = m + 2 := ⟨n - 2, by omega⟩
    have g := hK k (by omega)
    simp only at g
    simp only [edits_Normal.l1, hsz]
    by_cases a : (j : Int) < ((t - f : Nat) : Int)
    · rw [if_pos a]
      by_cases b : (j : Int) < (x.size : Int)
      · have e3 : bt (s.extract f t) (j : Int) = bt s ((f + j : Nat) : Int) := bt_cut _ _ _ _ (by omega)
        rw [if_pos b, if_pos (by omega), e3, show (bt s ((f + j : Nat) : Int) == bt x (j : Int)) = false by simpa using HC.out a b, hfin]
        exact g
      · rw [if_neg b, hfin]
        exact g
    · rw [if_neg a, hfin]
      exact g
  | succ d ih =>
    intro j h1 h2
    obtain ⟨K, hK⟩ := ih (j + 1) (by omega) (by omega)
    have hp := sp1 j (by omega)
    unfold preB at hp
    simp only [Bool.and_eq_true, decide_eq_true_eq] at hp
    obtain ⟨a, b, c⟩ := hp
    have C := Aside0.mk c
    clear c ih hr sp1 sp2
    have A0 : j < t - f := a
    have B0 : j < x.size := b
    have hw := Aside0.mk (show wrap64 ((j : Int) + 1) = ((j + 1 : Nat) : Int) from wsucc j (by omega))
    have e3 : bt (s.extract f t) (j : Int) = bt s ((f + j : Nat) : Int) := bt_cut _ _ _ _ (by omega)
    have a' : (j : Int) < ((t - f : Nat) : Int) := by omega
    have b' : (j : Int) < (x.size : Int) := by omega
    have b1 : (0 : Int) ≤ (j : Int) := by omega
    refine ⟨K + 2, fun n hn => ?_⟩
    obtain ⟨k, rfl⟩ : ∃ m, n = m + 2 := ⟨n - 2, by omega⟩
    have g := hK k (by omega)
    simp only at g
    simp only [edits_Normal.l1, hsz]
    rw [if_pos a', if_pos b', if_pos b1, e3, C.out]
    simp only [edits_Normal.j2, hw.out]
    rw [if_pos trivial]
    exact g

end

def normGo (s : ByteArray) (l : List S42) : List S42 := l.flatMap fun e => normE s e.f2 e.f0.toNat e.f1.toNat
theorem e_loop (s : ByteArray) (hs : s.size ≤ 140737488351232) (l : List S42) (hl : l.length ≤ 65536) (hB : ∀ x ∈ l, x.f2.size ≤ 140737488351232) (hc : Chain s.size none l) (d : Nat) : ∀ (i : Nat) (out : List S42), i ≤ l.length → l.length - i = d → out.length + d ≤ 65536 →
    Ev (fun k => edits_Normal.l0 k s out l (l.length : Int) (i : Int)) (out ++ normGo s (l.drop i), 0) := by
  induction d with
  | zero =>
    intro i out h1 h2 ho
    refine ⟨1, fun n hn => ?_⟩
    obtain ⟨k, rfl⟩ : ∃ m, n = m + 1 := ⟨n - 1, by omega⟩
    simp only [edits_Normal.l0]
    rw [if_neg (by omega), List.drop_eq_nil_of_le (by omega)]
    simp [normGo]
  | succ d ih =>
    intro i out h1 h2 ho
    have hi : i < l.length := by omega
    have hci : (i : Int) < (l.length : Int) := by omega
    have hc0 : (0 : Int) ≤ (i : Int) := by omega
    have hw : wrap64 ((i : Int) + 1) = ((i + 1 : Nat) : Int) := by rw [w64] <;> omega
    obtain ⟨e1, e2, e3⟩ := chain_at hc i hi
    have hxb := hB _ (List.getElem_mem hi)
    obtain ⟨f, hf⟩ := Int.eq_ofNat_of_zero_le e1
    obtain ⟨t, ht⟩ := Int.eq_ofNat_of_zero_le (Int.le_trans e1 e2)
    have hnl := normE_len s (l[i]).f2 f t
    have hft : f ≤ t := by omega
    have hts : t ≤ s.size := by omega
    have hih := ih (i + 1) (out ++ normE s (l[i]).f2 f t) (by omega) (by omega) (by rw [List.length_append]; omega)
    obtain ⟨pl1, pl2⟩ := pre_le s (l[i]).f2 f t
    have hcs : ((l[i]).f2.extract (preN s (l[i]).f2 f t) (l[i]).f2.size).size ≤ 140737488351232 := by rw [ByteArray.size_extract]; omega
    rw [← hw] at hih
    have hstep := e_l1 s hs l (l[i]).f2 hxb f t hft hts _ out (i : Int) (e_l2 s hs l _ hcs (f + preN s (l[i]).f2 f t) t (by omega) hts _ out (i : Int) (by omega) hih _ 0 (by omega) rfl) _ 0 (by omega) rfl
    obtain ⟨K, hK⟩ := hstep
    rw [List.drop_eq_getElem_cons hi]
    have e4 : (l[i]).f1 ≤ (s.size : Int) := e3
    refine ⟨K + 1, fun n hn => ?_⟩
    obtain ⟨k, rfl⟩ : ∃ m, n = m + 1 := ⟨n - 1, by omega⟩
    have g := hK k (by omega)
    simp only at g
    simp only [edits_Normal.l0]
    rw [rd_at l i hi, if_pos hci, if_pos hc0, if_pos hci, if_pos e1, if_pos e2, if_pos e4, hf, ht]
    simp only [Int.toNat_natCast]
    simp only [normGo, List.flatMap_cons, hf, ht, Int.toNat_natCast]
    rw [← List.append_assoc]
    exact g
def Nspec (s : ByteArray) (l : List S42) : List S42 × Int := if vspec s.size l = 0 then (normGo s l, 0) else ([], vspec s.size l)
theorem Normal_is (s : ByteArray) (hs : s.size ≤ 140737488351232) (l : List S42) (hB : ∀ x ∈ l, x.f2.size ≤ 140737488351232) : Ev (fun k => edits_Normal.f k s l) (Nspec s l) := by
  unfold edits_Normal.f Nspec
  refine (valid_is _ l).bind ?_
  by_cases h : vspec s.size l = 0
  · simp only [if_pos h]
    obtain ⟨hl, hc⟩ := vspec_zero h
    have := e_loop s hs l hl hB hc l.length 0 [] (by omega) (by omega) (by simpa using hl)
    simpa using this
  · simp only [if_neg h]; exact Ev.now _
end Go.Proofs.Ytaihajmdngoeiaa.Q

-- The law EditsBack, printed by a changed print tool over the contract of Compose (GIVEN)
namespace Go.Proofs.Ytaihajmdngoeiaa.F
open Go.RowKit Go.Proofs.YtaihajmdngoeiaaW.PrintWords Go.Proofs.YtaihajmdngoeiaaW.PrintLast Go.Proofs.YtaihajmdngoeiaaW.PrintMore
attribute [local go_sem] max2_int min2_int max_two min_two max_three min_three max_four min_four   -- for this text's walks alone
set_option linter.unusedVariables false
set_option linter.unusedSimpArgs false

/-! ### monikerlaw1_EditsBack: function 14 -/
mutual
def monikerlaw1_EditsBack.j0 : Nat → ByteArray → List (S42) → ByteArray → Int → List (S42) → Bool → Option (Bool)
  | 0, _, _, _, _, _, _ => none
  | k + 1, x0, x1, x5, x6, x7, x38 => if x38 = true then (some false) else (if x6 = 0 then ((edits_Apply.f k x5 x7).bind fun bt548 => ((edits_Invert.f k x5 x7).bind fun bt550 => (if bt548.2 = 0 then (if bt550.2 = 0 then (if bt548.1.toList = x0.toList then ((monikerplain_SameEdits.f k bt550.1 x1).bind fun t554 => (monikerlaw1_EditsBack.j1 k x0 x1 x7 (!t554))) else (monikerlaw1_EditsBack.j1 k x0 x1 x7 true)) else (monikerlaw1_EditsBack.j1 k x0 x1 x7 true)) else (monikerlaw1_EditsBack.j1 k x0 x1 x7 true)))) else (if x5.toList = ([] : List UInt8) then (some ((x7.length : Int) == 0)) else (some false)))
def monikerlaw1_EditsBack.j1 : Nat → ByteArray → List (S42) → List (S42) → Bool → Option (Bool)
  | 0, _, _, _, _ => none
  | k + 1, x0, x1, x7, x76 => if x76 = true then (some false) else ((edits_Compose.f k (x0.size : Int) x1 x7).bind fun bt555 => (if bt555.2 = 0 then (if (bt555.1.length : Int) = (x1.length : Int) then ((edits_Normal.f k x0 bt555.1).bind fun bt559 => (if bt559.2 = 0 then (some ((bt559.1.length : Int) == 0)) else (some false))) else (some false)) else (some false)))
end
def monikerlaw1_EditsBack.f (k : Nat) (a0 : ByteArray) (l1 : List (S42)) : Option (Bool) := (edits_Apply.f k a0 l1).bind fun bt541 => ((edits_Invert.f k a0 l1).bind fun bt543 => (if bt541.2 = bt543.2 then ((edits_Valid.f k (a0.size : Int) l1).bind fun t547 => (monikerlaw1_EditsBack.j0 k a0 l1 bt541.1 bt541.2 bt543.1 ((bt541.2 == 0) != (t547 == 0)))) else (monikerlaw1_EditsBack.j0 k a0 l1 bt541.1 bt541.2 bt543.1 true)))
set_option maxHeartbeats 8000000 in
set_option maxRecDepth 100000 in
theorem monikerlaw1_EditsBack.calls (k : Nat) (a0 : ByteArray) (A1 : Option Addr) (c1 : Nat) (l1 : List (S42)) (r : Bool) (w : World) (hr1 : Kd.C k42 w A1 l1.length l1) (hc1 : l1.length ≤ c1) (h : monikerlaw1_EditsBack.f k a0 l1 = some r) :
    Calls Try.prog 14 #[.string a0, .slice A1 l1.length c1] w fun e w' => e = .returned (.bool r) ∧ Below w.heap.size w w' := by
  have HR1 := Aside0.mk hr1
  have HC1 := Aside0.mk hc1
  clear hr1 hc1
  have HB := Aside0.mk (Below.refl w.heap.size w)
  have H : ((edits_Apply.f k a0 l1).bind fun bt541 => ((edits_Invert.f k a0 l1).bind fun bt543 => (if bt541.2 = bt543.2 then ((edits_Valid.f k (a0.size : Int) l1).bind fun t547 => (monikerlaw1_EditsBack.j0 k a0 l1 bt541.1 bt541.2 bt543.1 ((bt541.2 == 0) != (t547 == 0)))) else (monikerlaw1_EditsBack.j0 k a0 l1 bt541.1 bt541.2 bt543.1 true)))) = some r := h
  clear h
  replace H := Option.bind_eq_some_iff.mp H
  obtain ⟨⟨t541, t542⟩, A30, H⟩ := H
  replace H : ((edits_Invert.f k a0 l1).bind fun bt543 => (if t542 = bt543.2 then ((edits_Valid.f k (a0.size : Int) l1).bind fun t547 => (monikerlaw1_EditsBack.j0 k a0 l1 t541 t542 bt543.1 ((t542 == 0) != (t547 == 0)))) else (monikerlaw1_EditsBack.j0 k a0 l1 t541 t542 bt543.1 true))) = some r := H
  have A3 := Aside0.mk A30
  clear A30
  replace H := Option.bind_eq_some_iff.mp H
  obtain ⟨⟨t543, t544⟩, A40, H⟩ := H
  replace H : (if t542 = t544 then ((edits_Valid.f k (a0.size : Int) l1).bind fun t547 => (monikerlaw1_EditsBack.j0 k a0 l1 t541 t542 t543 ((t542 == 0) != (t547 == 0)))) else (monikerlaw1_EditsBack.j0 k a0 l1 t541 t542 t543 true)) = some r := H
  have A4 := Aside0.mk A40
  clear A40
  have HC5 := Aside0.mk H
  clear H
  go_enter Try.func14, Try.ntmps14
  go_upto_region 3 with (first | ((with_reducible refine gate_callee (f := 24) rfl ?_); refine goesL_ (some 17) rfl rfl Try.func24 (by kernel_rfl) rfl #[.string a0, .slice A1 l1.length c1] rfl (by (try simp only [List.map_toArray, List.map_cons, List.map_nil]); first | done | rfl | (simp only [List.length_drop, List.length_take]; rfl)) ?_; (with_reducible refine (edits_Apply.calls k a0 _ _ l1 t541 t542 _ ?side1 ?side2 A3.out).mono ?_); (case side1 => repeat (first | exact HR1.out | (with_reducible refine Kd.C_alloc ?_ _) | (with_reducible refine Kd.C_drewN ?_ _) | (with_reducible refine Kd.C_drew ?_))); (case side2 => exact HC1.out); rintro e w6 ⟨rfl, hb⟩; refine ⟨_, rfl, ?_⟩; have n0_ := Aside0.mk (below_step (by repeat (first | (with_reducible first | exact HB.out | apply below_alloc | apply pw_below_drewN | apply below_drew1) | exact HB.out)) hb); clear HB; have HB := n0_; clear n0_; (try clear hb); (try clear hb2); (try clear hk); (try clear hi)) | ((with_reducible refine gate_callee (f := 19) rfl ?_); refine goesL_ (some 23) rfl rfl Try.func19 (by kernel_rfl) rfl #[.string a0, .slice A1 l1.length c1] rfl (by (try simp only [List.map_toArray, List.map_cons, List.map_nil]); first | done | rfl | (simp only [List.length_drop, List.length_take]; rfl)) ?_; (with_reducible refine (edits_Invert.calls k a0 _ _ l1 t543 t544 _ ?side1 ?side2 A4.out).mono ?_); (case side1 => repeat (first | exact (Kd.C_below HR1.out HB.out) | (with_reducible refine Kd.C_alloc ?_ _) | (with_reducible refine Kd.C_drewN ?_ _) | (with_reducible refine Kd.C_drew ?_))); (case side2 => exact HC1.out); rintro e w7 ⟨v545, rfl, ho0, hb⟩; refine ⟨_, rfl, ?_⟩; have n0_ := Aside0.mk (Kd.R_lower ho0 (below_size (by repeat (first | (with_reducible first | exact HB.out | apply below_alloc | apply pw_below_drewN | apply below_drew1) | exact HB.out)))); have n1_ := Aside0.mk (below_step (by repeat (first | (with_reducible first | exact HB.out | apply below_alloc | apply pw_below_drewN | apply below_drew1) | exact HB.out)) hb); clear HB; have HO546 := n0_; have HB := n1_; clear n0_ n1_; (try clear hb); (try clear hb2); (try clear hk); (try clear hi); (try clear ho0)))
  (try simp only [Act.put, List.setIfInBounds_toArray, List.set_cons_zero, List.set_cons_succ])
  go_cut [38] (fun v38 wc => ∃ (kq : Nat) (x38_4 : Bool), v38 = .bool x38_4 ∧ Aside0 (monikerlaw1_EditsBack.j0 kq a0 l1 t541 t542 t543 x38_4 = some r) ∧ Aside0 (kq ≤ k) ∧ Aside0 (Kd.R k42 42 wc w.heap.size (fun _ => True) v545 t543) ∧ Aside0 (Below w.heap.size w wc))
  case first =>
    have H := HC5.out
    clear HC5
    by_cases c8 : t542 = t544
    · rw [if_pos c8] at H
      have c8b0 : (t542 == t544) = true := beq_iff_eq.mpr c8
      have c8b1 : (t542 != t544) = false := bne_eq_false_iff_eq.mpr c8
      clear c8
      (first | rw [c8b0] | (simp only [i64_w, i32_w]; rw [c8b0]) | skip)
      replace H := Option.bind_eq_some_iff.mp H
      obtain ⟨t547, A90, H⟩ := H
      replace H : (monikerlaw1_EditsBack.j0 k a0 l1 t541 t542 t543 ((t542 == 0) != (t547 == 0))) = some r := H
      have A9 := Aside0.mk A90
      clear A90
      have H' := Aside0.mk H
      clear H
      go_wp2_with (first | (go_at_call 16; (with_reducible refine (edits_Valid.calls k (a0.size : Int) _ _ l1 t547 _ ?side1 ?side2 A9.out).mono ?_); (case side1 => repeat (first | exact (Kd.C_below HR1.out HB.out) | (with_reducible refine Kd.C_alloc ?_ _) | (with_reducible refine Kd.C_drewN ?_ _) | (with_reducible refine Kd.C_drew ?_))); (case side2 => exact HC1.out); rintro e w10 ⟨rfl, hb⟩; have n0_ := Aside0.mk (Kd.R_below (by (with_reducible repeat (first | apply Kd.R_alloc | apply Kd.R_drewN | apply Kd.R_drew)); exact HO546.out) hb); have n1_ := Aside0.mk (below_step (by repeat (first | (with_reducible first | exact HB.out | apply below_alloc | apply pw_below_drewN | apply below_drew1) | exact HB.out)) hb); clear HO546; clear HB; have HO546 := n0_; have HB := n1_; clear n0_ n1_; (try clear hb); (try clear hb2); (try clear hk); (try clear hi)))
      go_meet
      case rel => exact ⟨_, (((t542 == 0) != (t547 == 0))), (by first | rfl | (simp; done) | (simp [*]; done)), H', ⟨by first | omega | exact Nat.le_refl _⟩, ⟨by (with_reducible repeat (first | apply Kd.R_alloc | apply Kd.R_drewN | apply Kd.R_drew)); exact HO546.out⟩, ⟨by repeat (first | (with_reducible first | exact HB.out | apply below_alloc | apply pw_below_drewN | apply below_drew1) | exact HB.out)⟩⟩
    · rw [if_neg c8] at H
      have c8b0 : (t542 == t544) = false := beq_eq_false_iff_ne.mpr c8
      have c8b1 : (t542 != t544) = true := bne_iff_ne.mpr c8
      (first | rw [c8b0] | (simp only [i64_w, i32_w]; rw [c8b0]) | skip)
      have H' := Aside0.mk H
      clear H
      go_wp2
      go_meet
      case rel => exact ⟨_, (true), (by first | rfl | (simp; done) | (simp [*]; done)), H', ⟨by first | omega | exact Nat.le_refl _⟩, ⟨by (with_reducible repeat (first | apply Kd.R_alloc | apply Kd.R_drewN | apply Kd.R_drew)); exact HO546.out⟩, ⟨by repeat (first | (with_reducible first | exact HB.out | apply below_alloc | apply pw_below_drewN | apply below_drew1) | exact HB.out)⟩⟩
  case rest =>
    clear HC5
    try clear c1
    try clear c2
    try clear p2
    try clear c8
    try clear c8b0
    try clear c8b1
    obtain ⟨kq, x38_4, rfl, HA, HJ4, HO_7, HB⟩ := hcut
    cases kq with
    | zero => exact absurd HA.out (by simp [monikerlaw1_EditsBack.j0])
    | succ kj4 =>
      have H := HA.out
      clear HA
      simp only [monikerlaw1_EditsBack.j0] at H
      by_cases c11 : x38_4 = true
      · subst c11
        have H1 : (some false) = some r := by rw [if_pos rfl] at H; exact H
        clear H
        have H := H1
        clear H1
        obtain rfl := Option.some.inj H
        go_wp2
        go_ret
        exact ⟨by first | rfl | (simp [errW_none, errW_some] <;> rfl) | (simp [*, errW_none, errW_some] <;> rfl), by repeat (first | (with_reducible first | exact HB.out | apply below_alloc | apply pw_below_drewN | apply below_drew1) | exact HB.out)⟩
      · replace c11 := Bool.eq_false_iff.mpr c11
        subst c11
        have H1 : (if t542 = 0 then ((edits_Apply.f kj4 t541 t543).bind fun bt548 => ((edits_Invert.f kj4 t541 t543).bind fun bt550 => (if bt548.2 = 0 then (if bt550.2 = 0 then (if bt548.1.toList = a0.toList then ((monikerplain_SameEdits.f kj4 bt550.1 l1).bind fun t554 => (monikerlaw1_EditsBack.j1 kj4 a0 l1 t543 (!t554))) else (monikerlaw1_EditsBack.j1 kj4 a0 l1 t543 true)) else (monikerlaw1_EditsBack.j1 kj4 a0 l1 t543 true)) else (monikerlaw1_EditsBack.j1 kj4 a0 l1 t543 true)))) else (if t541.toList = ([] : List UInt8) then (some ((t543.length : Int) == 0)) else (some false))) = some r := by rw [if_neg (show ¬ (false = true) by decide)] at H; exact H
        clear H
        have H := H1
        clear H1
        by_cases c12 : t542 = 0
        · rw [if_pos c12] at H
          have c12b0 : (t542 == 0) = true := beq_iff_eq.mpr c12
          have c12b1 : (t542 != 0) = false := bne_eq_false_iff_eq.mpr c12
          clear c12
          replace H := Option.bind_eq_some_iff.mp H
          obtain ⟨⟨t548, t549⟩, A130, H⟩ := H
          replace H : ((edits_Invert.f kj4 t541 t543).bind fun bt550 => (if t549 = 0 then (if bt550.2 = 0 then (if t548.toList = a0.toList then ((monikerplain_SameEdits.f kj4 bt550.1 l1).bind fun t554 => (monikerlaw1_EditsBack.j1 kj4 a0 l1 t543 (!t554))) else (monikerlaw1_EditsBack.j1 kj4 a0 l1 t543 true)) else (monikerlaw1_EditsBack.j1 kj4 a0 l1 t543 true)) else (monikerlaw1_EditsBack.j1 kj4 a0 l1 t543 true))) = some r := H
          have A13 := Aside0.mk A130
          clear A130
          replace H := Option.bind_eq_some_iff.mp H
          obtain ⟨⟨t550, t551⟩, A140, H⟩ := H
          replace H : (if t549 = 0 then (if t551 = 0 then (if t548.toList = a0.toList then ((monikerplain_SameEdits.f kj4 t550 l1).bind fun t554 => (monikerlaw1_EditsBack.j1 kj4 a0 l1 t543 (!t554))) else (monikerlaw1_EditsBack.j1 kj4 a0 l1 t543 true)) else (monikerlaw1_EditsBack.j1 kj4 a0 l1 t543 true)) else (monikerlaw1_EditsBack.j1 kj4 a0 l1 t543 true)) = some r := H
          have A14 := Aside0.mk A140
          clear A140
          have HC15 := Aside0.mk H
          clear H
          obtain ⟨Ao16, co16, eo16⟩ := Kd.R_slice HO_7.out
          subst eo16
          go_upto_region 9 with (first | ((with_reducible refine gate_callee (f := 24) rfl ?_); refine goesL_ (some 51) rfl rfl Try.func24 (by kernel_rfl) rfl #[.string t541, .slice Ao16 t543.length co16] rfl (by (try simp only [List.map_toArray, List.map_cons, List.map_nil]); first | done | rfl | (simp only [List.length_drop, List.length_take]; rfl)) ?_; (with_reducible refine (edits_Apply.calls kj4 t541 _ _ t543 t548 t549 _ ?side1 ?side2 A13.out).mono ?_); (case side1 => repeat (first | exact (Kd.R_reads' HO_7.out).2.2 | (with_reducible refine Kd.C_alloc ?_ _) | (with_reducible refine Kd.C_drewN ?_ _) | (with_reducible refine Kd.C_drew ?_))); (case side2 => exact (Kd.R_reads' HO_7.out).2.1); rintro e w17 ⟨rfl, hb⟩; refine ⟨_, rfl, ?_⟩; have n0_ := Aside0.mk (Kd.R_below (by (with_reducible repeat (first | apply Kd.R_alloc | apply Kd.R_drewN | apply Kd.R_drew)); exact HO_7.out) hb); have n1_ := Aside0.mk (below_step (by repeat (first | (with_reducible first | exact HB.out | apply below_alloc | apply pw_below_drewN | apply below_drew1) | exact HB.out)) hb); clear HO_7; clear HB; have HO_7 := n0_; have HB := n1_; clear n0_ n1_; (try clear hb); (try clear hb2); (try clear hk); (try clear hi)) | ((with_reducible refine gate_callee (f := 19) rfl ?_); refine goesL_ (some 57) rfl rfl Try.func19 (by kernel_rfl) rfl #[.string t541, .slice Ao16 t543.length co16] rfl (by (try simp only [List.map_toArray, List.map_cons, List.map_nil]); first | done | rfl | (simp only [List.length_drop, List.length_take]; rfl)) ?_; (with_reducible refine (edits_Invert.calls kj4 t541 _ _ t543 t550 t551 _ ?side1 ?side2 A14.out).mono ?_); (case side1 => repeat (first | exact (Kd.R_reads' HO_7.out).2.2 | (with_reducible refine Kd.C_alloc ?_ _) | (with_reducible refine Kd.C_drewN ?_ _) | (with_reducible refine Kd.C_drew ?_))); (case side2 => exact (Kd.R_reads' HO_7.out).2.1); rintro e w18 ⟨v552, rfl, ho0, hb⟩; refine ⟨_, rfl, ?_⟩; have n0_ := Aside0.mk (Kd.R_elder' (by (with_reducible repeat (first | apply Kd.R_alloc | apply Kd.R_drewN | apply Kd.R_drew)); exact HO_7.out) (Kd.R_base ho0) hb); have n1_ := Aside0.mk (Kd.R_lower (Kd.R_new' ho0 (Kd.R_lt (by (with_reducible repeat (first | apply Kd.R_alloc | apply Kd.R_drewN | apply Kd.R_drew)); exact HO_7.out))) (below_size (by repeat (first | (with_reducible first | exact HB.out | apply below_alloc | apply pw_below_drewN | apply below_drew1) | exact HB.out)))); have n2_ := Aside0.mk (below_step (by repeat (first | (with_reducible first | exact HB.out | apply below_alloc | apply pw_below_drewN | apply below_drew1) | exact HB.out)) hb); clear HO_7; clear HB; have HO_7 := n0_; have HO553 := n1_; have HB := n2_; clear n0_ n1_ n2_; (try clear hb); (try clear hb2); (try clear hk); (try clear hi); (try clear ho0)))
          (try simp only [Act.put, List.setIfInBounds_toArray, List.set_cons_zero, List.set_cons_succ])
          go_cut [76] (fun v76 wc => ∃ (kq : Nat) (x76_14 : Bool), v76 = .bool x76_14 ∧ Aside0 (monikerlaw1_EditsBack.j1 kq a0 l1 t543 x76_14 = some r) ∧ Aside0 (kq ≤ kj4) ∧ Aside0 (Kd.R k42 42 wc w.heap.size (fun _ => True) (.slice Ao16 t543.length co16) t543) ∧ Aside0 (Below w.heap.size w wc))
          case first =>
            have H := HC15.out
            clear HC15
            by_cases c19 : t549 = 0
            · rw [if_pos c19] at H
              have c19b0 : (t549 == 0) = true := beq_iff_eq.mpr c19
              have c19b1 : (t549 != 0) = false := bne_eq_false_iff_eq.mpr c19
              clear c19
              (first | rw [c19b0] | (simp only [i64_w, i32_w]; rw [c19b0]) | skip)
              by_cases c20 : t551 = 0
              · rw [if_pos c20] at H
                have c20b0 : (t551 == 0) = true := beq_iff_eq.mpr c20
                have c20b1 : (t551 != 0) = false := bne_eq_false_iff_eq.mpr c20
                clear c20
                by_cases c21 : t548.toList = a0.toList
                · rw [if_pos c21] at H
                  have c21b0 : (t548.toList == a0.toList) = true := beq_iff_eq.mpr c21
                  have c21b1 : (t548.toList != a0.toList) = false := bne_eq_false_iff_eq.mpr c21
                  clear c21
                  replace H := Option.bind_eq_some_iff.mp H
                  obtain ⟨t554, A220, H⟩ := H
                  replace H : (monikerlaw1_EditsBack.j1 kj4 a0 l1 t543 (!t554)) = some r := H
                  have A22 := Aside0.mk A220
                  clear A220
                  have H' := Aside0.mk H
                  clear H
                  obtain ⟨Ao23, co23, eo23⟩ := Kd.R_slice HO553.out
                  subst eo23
                  go_wp2_with (first | (go_at_call 21; (with_reducible refine (monikerplain_SameEdits.calls kj4 _ _ t550 _ _ l1 t554 _ ?side1 ?side2 ?side3 ?side4 A22.out).mono ?_); (case side1 => repeat (first | exact (Kd.R_reads' HO553.out).2.2 | (with_reducible refine Kd.C_alloc ?_ _) | (with_reducible refine Kd.C_drewN ?_ _) | (with_reducible refine Kd.C_drew ?_))); (case side2 => exact (Kd.R_reads' HO553.out).2.1); (case side3 => repeat (first | exact (Kd.C_below HR1.out HB.out) | (with_reducible refine Kd.C_alloc ?_ _) | (with_reducible refine Kd.C_drewN ?_ _) | (with_reducible refine Kd.C_drew ?_))); (case side4 => exact HC1.out); rintro e w' ⟨rfl, ⟨nd, rfl⟩⟩))
                  go_meet
                  case rel => exact ⟨_, (!t554), (by first | rfl | (simp; done) | (simp [*]; done)), H', ⟨by have := HJ4.out; first | omega | exact Nat.le_refl _⟩, ⟨by (with_reducible repeat (first | apply Kd.R_alloc | apply Kd.R_drewN | apply Kd.R_drew)); exact Kd.R_mono HO_7.out (fun _ hk => trivial)⟩, ⟨by repeat (first | (with_reducible first | exact HB.out | apply below_alloc | apply pw_below_drewN | apply below_drew1) | exact HB.out)⟩⟩
                · rw [if_neg c21] at H
                  have c21b0 : (t548.toList == a0.toList) = false := beq_eq_false_iff_ne.mpr c21
                  have c21b1 : (t548.toList != a0.toList) = true := bne_iff_ne.mpr c21
                  have H' := Aside0.mk H
                  clear H
                  go_wp2
                  go_meet
                  case rel => exact ⟨_, (true), (by first | rfl | (simp; done) | (simp [*]; done)), H', ⟨by have := HJ4.out; first | omega | exact Nat.le_refl _⟩, ⟨by (with_reducible repeat (first | apply Kd.R_alloc | apply Kd.R_drewN | apply Kd.R_drew)); exact Kd.R_mono HO_7.out (fun _ hk => trivial)⟩, ⟨by repeat (first | (with_reducible first | exact HB.out | apply below_alloc | apply pw_below_drewN | apply below_drew1) | exact HB.out)⟩⟩
              · rw [if_neg c20] at H
                have c20b0 : (t551 == 0) = false := beq_eq_false_iff_ne.mpr c20
                have c20b1 : (t551 != 0) = true := bne_iff_ne.mpr c20
                have H' := Aside0.mk H
                clear H
                go_wp2
                go_meet
                case rel => exact ⟨_, (true), (by first | rfl | (simp; done) | (simp [*]; done)), H', ⟨by have := HJ4.out; first | omega | exact Nat.le_refl _⟩, ⟨by (with_reducible repeat (first | apply Kd.R_alloc | apply Kd.R_drewN | apply Kd.R_drew)); exact Kd.R_mono HO_7.out (fun _ hk => trivial)⟩, ⟨by repeat (first | (with_reducible first | exact HB.out | apply below_alloc | apply pw_below_drewN | apply below_drew1) | exact HB.out)⟩⟩
            · rw [if_neg c19] at H
              have c19b0 : (t549 == 0) = false := beq_eq_false_iff_ne.mpr c19
              have c19b1 : (t549 != 0) = true := bne_iff_ne.mpr c19
              (first | rw [c19b0] | (simp only [i64_w, i32_w]; rw [c19b0]) | skip)
              have H' := Aside0.mk H
              clear H
              go_wp2
              go_meet
              case rel => exact ⟨_, (true), (by first | rfl | (simp; done) | (simp [*]; done)), H', ⟨by have := HJ4.out; first | omega | exact Nat.le_refl _⟩, ⟨by (with_reducible repeat (first | apply Kd.R_alloc | apply Kd.R_drewN | apply Kd.R_drew)); exact Kd.R_mono HO_7.out (fun _ hk => trivial)⟩, ⟨by repeat (first | (with_reducible first | exact HB.out | apply below_alloc | apply pw_below_drewN | apply below_drew1) | exact HB.out)⟩⟩
          case rest =>
            clear HC15
            try clear c1
            try clear c2
            try clear p2
            try clear c8
            try clear c8b0
            try clear c8b1
            try clear c11
            try clear c12
            try clear c12b0
            try clear c12b1
            try clear c14
            try clear c19
            try clear c19b0
            try clear c19b1
            try clear c20
            try clear c20b0
            try clear c20b1
            try clear c21
            try clear c21b0
            try clear c21b1
            try clear p2
            obtain ⟨kq, x76_14, rfl, HA, HJ14, HO_7, HB⟩ := hcut
            cases kq with
            | zero => exact absurd HA.out (by simp [monikerlaw1_EditsBack.j1])
            | succ kj14 =>
              have H := HA.out
              clear HA
              simp only [monikerlaw1_EditsBack.j1] at H
              by_cases c24 : x76_14 = true
              · subst c24
                have H1 : (some false) = some r := by rw [if_pos rfl] at H; exact H
                clear H
                have H := H1
                clear H1
                obtain rfl := Option.some.inj H
                go_wp2
                go_ret
                exact ⟨by first | rfl | (simp [errW_none, errW_some] <;> rfl) | (simp [*, errW_none, errW_some] <;> rfl), by repeat (first | (with_reducible first | exact HB.out | apply below_alloc | apply pw_below_drewN | apply below_drew1) | exact HB.out)⟩
              · replace c24 := Bool.eq_false_iff.mpr c24
                subst c24
                have H1 : ((edits_Compose.f kj14 (a0.size : Int) l1 t543).bind fun bt555 => (if bt555.2 = 0 then (if (bt555.1.length : Int) = (l1.length : Int) then ((edits_Normal.f kj14 a0 bt555.1).bind fun bt559 => (if bt559.2 = 0 then (some ((bt559.1.length : Int) == 0)) else (some false))) else (some false)) else (some false))) = some r := by rw [if_neg (show ¬ (false = true) by decide)] at H; exact H
                clear H
                have H := H1
                clear H1
                replace H := Option.bind_eq_some_iff.mp H
                obtain ⟨⟨t555, t556⟩, A250, H⟩ := H
                replace H : (if t556 = 0 then (if (t555.length : Int) = (l1.length : Int) then ((edits_Normal.f kj14 a0 t555).bind fun bt559 => (if bt559.2 = 0 then (some ((bt559.1.length : Int) == 0)) else (some false))) else (some false)) else (some false)) = some r := H
                have A25 := Aside0.mk A250
                clear A250
                by_cases c26 : t556 = 0
                · rw [if_pos c26] at H
                  have c26b0 : (t556 == 0) = true := beq_iff_eq.mpr c26
                  have c26b1 : (t556 != 0) = false := bne_eq_false_iff_eq.mpr c26
                  clear c26
                  by_cases c27 : (t555.length : Int) = (l1.length : Int)
                  · rw [if_pos c27] at H
                    have c27b0 : ((t555.length : Int) == (l1.length : Int)) = true := beq_iff_eq.mpr c27
                    have c27b1 : ((t555.length : Int) != (l1.length : Int)) = false := bne_eq_false_iff_eq.mpr c27
                    have c27b2 : (t555.length == l1.length) = true := by first | simpa using c27 | (simp at c27 ⊢; omega)
                    clear c27
                    replace H := Option.bind_eq_some_iff.mp H
                    obtain ⟨⟨t559, t560⟩, A280, H⟩ := H
                    replace H : (if t560 = 0 then (some ((t559.length : Int) == 0)) else (some false)) = some r := H
                    have A28 := Aside0.mk A280
                    clear A280
                    by_cases c29 : t560 = 0
                    · rw [if_pos c29] at H
                      have c29b0 : (t560 == 0) = true := beq_iff_eq.mpr c29
                      have c29b1 : (t560 != 0) = false := bne_eq_false_iff_eq.mpr c29
                      clear c29
                      obtain rfl := Option.some.inj H
                      go_wp2_with (first | ((with_reducible refine gate_callee (f := 30) rfl ?_); refine goesL_ (some 82) rfl rfl Try.func30 (by kernel_rfl) rfl #[.int .i64 (a0.size : Int), .slice A1 l1.length c1, .slice Ao16 t543.length co16] rfl (by (try simp only [List.map_toArray, List.map_cons, List.map_nil]); first | done | rfl | (simp only [List.length_drop, List.length_take]; rfl)) ?_; (with_reducible refine (edits_Compose.calls kj14 (a0.size : Int) _ _ l1 _ _ t543 t555 t556 _ ?side1 ?side2 ?side3 ?side4 A25.out).mono ?_); (case side1 => repeat (first | exact (Kd.C_below HR1.out HB.out) | (with_reducible refine Kd.C_alloc ?_ _) | (with_reducible refine Kd.C_drewN ?_ _) | (with_reducible refine Kd.C_drew ?_))); (case side2 => exact HC1.out); (case side3 => repeat (first | exact (Kd.R_reads' HO_7.out).2.2 | (with_reducible refine Kd.C_alloc ?_ _) | (with_reducible refine Kd.C_drewN ?_ _) | (with_reducible refine Kd.C_drew ?_))); (case side4 => exact (Kd.R_reads' HO_7.out).2.1); rintro e w30 ⟨v557, rfl, ho0, hb⟩; refine ⟨_, rfl, ?_⟩; have n0_ := Aside0.mk (Kd.R_elder' (by (with_reducible repeat (first | apply Kd.R_alloc | apply Kd.R_drewN | apply Kd.R_drew)); exact HO_7.out) (Kd.R_base ho0) hb); have n1_ := Aside0.mk (Kd.R_lower (Kd.R_new' ho0 (Kd.R_lt (by (with_reducible repeat (first | apply Kd.R_alloc | apply Kd.R_drewN | apply Kd.R_drew)); exact HO_7.out))) (below_size (by repeat (first | (with_reducible first | exact HB.out | apply below_alloc | apply pw_below_drewN | apply below_drew1) | exact HB.out)))); have n2_ := Aside0.mk (below_step (by repeat (first | (with_reducible first | exact HB.out | apply below_alloc | apply pw_below_drewN | apply below_drew1) | exact HB.out)) hb); clear HO_7; clear HB; have HO_7 := n0_; have HO558 := n1_; have HB := n2_; clear n0_ n1_ n2_; (try clear hb); (try clear hb2); (try clear hk); (try clear hi); (try clear ho0); obtain ⟨Ao31, co31, eo31⟩ := Kd.R_slice HO558.out; subst eo31) | ((with_reducible refine gate_callee (f := 26) rfl ?_); refine goesL_ (some 97) rfl rfl Try.func26 (by kernel_rfl) rfl #[.string a0, .slice Ao31 t555.length co31] rfl (by (try simp only [List.map_toArray, List.map_cons, List.map_nil]); first | done | rfl | (simp only [List.length_drop, List.length_take]; rfl)) ?_; (with_reducible refine (edits_Normal.calls kj14 a0 _ _ t555 t559 t560 _ ?side1 ?side2 A28.out).mono ?_); (case side1 => repeat (first | exact (Kd.R_reads' HO558.out).2.2 | (with_reducible refine Kd.C_alloc ?_ _) | (with_reducible refine Kd.C_drewN ?_ _) | (with_reducible refine Kd.C_drew ?_))); (case side2 => exact (Kd.R_reads' HO558.out).2.1); rintro e w32 ⟨v561, rfl, ho0, hb⟩; refine ⟨_, rfl, ?_⟩; have n0_ := Aside0.mk (Kd.R_elder' (by (with_reducible repeat (first | apply Kd.R_alloc | apply Kd.R_drewN | apply Kd.R_drew)); exact HO_7.out) (Kd.R_base ho0) hb); have n1_ := Aside0.mk (Kd.R_elder' (by (with_reducible repeat (first | apply Kd.R_alloc | apply Kd.R_drewN | apply Kd.R_drew)); exact HO558.out) (Kd.R_base ho0) hb); have n2_ := Aside0.mk (Kd.R_lower (Kd.R_new' (Kd.R_new' ho0 (Kd.R_lt (by (with_reducible repeat (first | apply Kd.R_alloc | apply Kd.R_drewN | apply Kd.R_drew)); exact HO_7.out))) (Kd.R_lt (by (with_reducible repeat (first | apply Kd.R_alloc | apply Kd.R_drewN | apply Kd.R_drew)); exact HO558.out))) (below_size (by repeat (first | (with_reducible first | exact HB.out | apply below_alloc | apply pw_below_drewN | apply below_drew1) | exact HB.out)))); have n3_ := Aside0.mk (below_step (by repeat (first | (with_reducible first | exact HB.out | apply below_alloc | apply pw_below_drewN | apply below_drew1) | exact HB.out)) hb); clear HO_7; clear HO558; clear HB; have HO_7 := n0_; have HO558 := n1_; have HO562 := n2_; have HB := n3_; clear n0_ n1_ n2_ n3_; (try clear hb); (try clear hb2); (try clear hk); (try clear hi); (try clear ho0); obtain ⟨Ao33, co33, eo33⟩ := Kd.R_slice HO562.out; subst eo33))
                      go_ret
                      exact ⟨by first | rfl | (simp [errW_none, errW_some] <;> rfl) | (simp [*, errW_none, errW_some] <;> rfl), by repeat (first | (with_reducible first | exact HB.out | apply below_alloc | apply pw_below_drewN | apply below_drew1) | exact HB.out)⟩
                    · rw [if_neg c29] at H
                      have c29b0 : (t560 == 0) = false := beq_eq_false_iff_ne.mpr c29
                      have c29b1 : (t560 != 0) = true := bne_iff_ne.mpr c29
                      obtain rfl := Option.some.inj H
                      go_wp2_with (first | ((with_reducible refine gate_callee (f := 30) rfl ?_); refine goesL_ (some 82) rfl rfl Try.func30 (by kernel_rfl) rfl #[.int .i64 (a0.size : Int), .slice A1 l1.length c1, .slice Ao16 t543.length co16] rfl (by (try simp only [List.map_toArray, List.map_cons, List.map_nil]); first | done | rfl | (simp only [List.length_drop, List.length_take]; rfl)) ?_; (with_reducible refine (edits_Compose.calls kj14 (a0.size : Int) _ _ l1 _ _ t543 t555 t556 _ ?side1 ?side2 ?side3 ?side4 A25.out).mono ?_); (case side1 => repeat (first | exact (Kd.C_below HR1.out HB.out) | (with_reducible refine Kd.C_alloc ?_ _) | (with_reducible refine Kd.C_drewN ?_ _) | (with_reducible refine Kd.C_drew ?_))); (case side2 => exact HC1.out); (case side3 => repeat (first | exact (Kd.R_reads' HO_7.out).2.2 | (with_reducible refine Kd.C_alloc ?_ _) | (with_reducible refine Kd.C_drewN ?_ _) | (with_reducible refine Kd.C_drew ?_))); (case side4 => exact (Kd.R_reads' HO_7.out).2.1); rintro e w34 ⟨v557, rfl, ho0, hb⟩; refine ⟨_, rfl, ?_⟩; have n0_ := Aside0.mk (Kd.R_elder' (by (with_reducible repeat (first | apply Kd.R_alloc | apply Kd.R_drewN | apply Kd.R_drew)); exact HO_7.out) (Kd.R_base ho0) hb); have n1_ := Aside0.mk (Kd.R_lower (Kd.R_new' ho0 (Kd.R_lt (by (with_reducible repeat (first | apply Kd.R_alloc | apply Kd.R_drewN | apply Kd.R_drew)); exact HO_7.out))) (below_size (by repeat (first | (with_reducible first | exact HB.out | apply below_alloc | apply pw_below_drewN | apply below_drew1) | exact HB.out)))); have n2_ := Aside0.mk (below_step (by repeat (first | (with_reducible first | exact HB.out | apply below_alloc | apply pw_below_drewN | apply below_drew1) | exact HB.out)) hb); clear HO_7; clear HB; have HO_7 := n0_; have HO558 := n1_; have HB := n2_; clear n0_ n1_ n2_; (try clear hb); (try clear hb2); (try clear hk); (try clear hi); (try clear ho0); obtain ⟨Ao35, co35, eo35⟩ := Kd.R_slice HO558.out; subst eo35) | ((with_reducible refine gate_callee (f := 26) rfl ?_); refine goesL_ (some 97) rfl rfl Try.func26 (by kernel_rfl) rfl #[.string a0, .slice Ao35 t555.length co35] rfl (by (try simp only [List.map_toArray, List.map_cons, List.map_nil]); first | done | rfl | (simp only [List.length_drop, List.length_take]; rfl)) ?_; (with_reducible refine (edits_Normal.calls kj14 a0 _ _ t555 t559 t560 _ ?side1 ?side2 A28.out).mono ?_); (case side1 => repeat (first | exact (Kd.R_reads' HO558.out).2.2 | (with_reducible refine Kd.C_alloc ?_ _) | (with_reducible refine Kd.C_drewN ?_ _) | (with_reducible refine Kd.C_drew ?_))); (case side2 => exact (Kd.R_reads' HO558.out).2.1); rintro e w36 ⟨v561, rfl, ho0, hb⟩; refine ⟨_, rfl, ?_⟩; have n0_ := Aside0.mk (Kd.R_elder' (by (with_reducible repeat (first | apply Kd.R_alloc | apply Kd.R_drewN | apply Kd.R_drew)); exact HO_7.out) (Kd.R_base ho0) hb); have n1_ := Aside0.mk (Kd.R_elder' (by (with_reducible repeat (first | apply Kd.R_alloc | apply Kd.R_drewN | apply Kd.R_drew)); exact HO558.out) (Kd.R_base ho0) hb); have n2_ := Aside0.mk (Kd.R_lower (Kd.R_new' (Kd.R_new' ho0 (Kd.R_lt (by (with_reducible repeat (first | apply Kd.R_alloc | apply Kd.R_drewN | apply Kd.R_drew)); exact HO_7.out))) (Kd.R_lt (by (with_reducible repeat (first | apply Kd.R_alloc | apply Kd.R_drewN | apply Kd.R_drew)); exact HO558.out))) (below_size (by repeat (first | (with_reducible first | exact HB.out | apply below_alloc | apply pw_below_drewN | apply below_drew1) | exact HB.out)))); have n3_ := Aside0.mk (below_step (by repeat (first | (with_reducible first | exact HB.out | apply below_alloc | apply pw_below_drewN | apply below_drew1) | exact HB.out)) hb); clear HO_7; clear HO558; clear HB; have HO_7 := n0_; have HO558 := n1_; have HO562 := n2_; have HB := n3_; clear n0_ n1_ n2_ n3_; (try clear hb); (try clear hb2); (try clear hk); (try clear hi); (try clear ho0)))
                      go_ret
                      exact ⟨by first | rfl | (simp [errW_none, errW_some] <;> rfl) | (simp [*, errW_none, errW_some] <;> rfl), by repeat (first | (with_reducible first | exact HB.out | apply below_alloc | apply pw_below_drewN | apply below_drew1) | exact HB.out)⟩
                  · rw [if_neg c27] at H
                    have c27b0 : ((t555.length : Int) == (l1.length : Int)) = false := beq_eq_false_iff_ne.mpr c27
                    have c27b1 : ((t555.length : Int) != (l1.length : Int)) = true := bne_iff_ne.mpr c27
                    have c27b2 : (t555.length == l1.length) = false := by first | simpa using c27 | (simp at c27 ⊢; omega)
                    obtain rfl := Option.some.inj H
                    go_wp2_with (first | ((with_reducible refine gate_callee (f := 30) rfl ?_); refine goesL_ (some 82) rfl rfl Try.func30 (by kernel_rfl) rfl #[.int .i64 (a0.size : Int), .slice A1 l1.length c1, .slice Ao16 t543.length co16] rfl (by (try simp only [List.map_toArray, List.map_cons, List.map_nil]); first | done | rfl | (simp only [List.length_drop, List.length_take]; rfl)) ?_; (with_reducible refine (edits_Compose.calls kj14 (a0.size : Int) _ _ l1 _ _ t543 t555 t556 _ ?side1 ?side2 ?side3 ?side4 A25.out).mono ?_); (case side1 => repeat (first | exact (Kd.C_below HR1.out HB.out) | (with_reducible refine Kd.C_alloc ?_ _) | (with_reducible refine Kd.C_drewN ?_ _) | (with_reducible refine Kd.C_drew ?_))); (case side2 => exact HC1.out); (case side3 => repeat (first | exact (Kd.R_reads' HO_7.out).2.2 | (with_reducible refine Kd.C_alloc ?_ _) | (with_reducible refine Kd.C_drewN ?_ _) | (with_reducible refine Kd.C_drew ?_))); (case side4 => exact (Kd.R_reads' HO_7.out).2.1); rintro e w37 ⟨v557, rfl, ho0, hb⟩; refine ⟨_, rfl, ?_⟩; have n0_ := Aside0.mk (Kd.R_elder' (by (with_reducible repeat (first | apply Kd.R_alloc | apply Kd.R_drewN | apply Kd.R_drew)); exact HO_7.out) (Kd.R_base ho0) hb); have n1_ := Aside0.mk (Kd.R_lower (Kd.R_new' ho0 (Kd.R_lt (by (with_reducible repeat (first | apply Kd.R_alloc | apply Kd.R_drewN | apply Kd.R_drew)); exact HO_7.out))) (below_size (by repeat (first | (with_reducible first | exact HB.out | apply below_alloc | apply pw_below_drewN | apply below_drew1) | exact HB.out)))); have n2_ := Aside0.mk (below_step (by repeat (first | (with_reducible first | exact HB.out | apply below_alloc | apply pw_below_drewN | apply below_drew1) | exact HB.out)) hb); clear HO_7; clear HB; have HO_7 := n0_; have HO558 := n1_; have HB := n2_; clear n0_ n1_ n2_; (try clear hb); (try clear hb2); (try clear hk); (try clear hi); (try clear ho0); obtain ⟨Ao38, co38, eo38⟩ := Kd.R_slice HO558.out; subst eo38))
                    go_ret
                    exact ⟨by first | rfl | (simp [errW_none, errW_some] <;> rfl) | (simp [*, errW_none, errW_some] <;> rfl), by repeat (first | (with_reducible first | exact HB.out | apply below_alloc | apply pw_below_drewN | apply below_drew1) | exact HB.out)⟩
                · rw [if_neg c26] at H
                  have c26b0 : (t556 == 0) = false := beq_eq_false_iff_ne.mpr c26
                  have c26b1 : (t556 != 0) = true := bne_iff_ne.mpr c26
                  obtain rfl := Option.some.inj H
                  go_wp2_with (first | ((with_reducible refine gate_callee (f := 30) rfl ?_); refine goesL_ (some 82) rfl rfl Try.func30 (by kernel_rfl) rfl #[.int .i64 (a0.size : Int), .slice A1 l1.length c1, .slice Ao16 t543.length co16] rfl (by (try simp only [List.map_toArray, List.map_cons, List.map_nil]); first | done | rfl | (simp only [List.length_drop, List.length_take]; rfl)) ?_; (with_reducible refine (edits_Compose.calls kj14 (a0.size : Int) _ _ l1 _ _ t543 t555 t556 _ ?side1 ?side2 ?side3 ?side4 A25.out).mono ?_); (case side1 => repeat (first | exact (Kd.C_below HR1.out HB.out) | (with_reducible refine Kd.C_alloc ?_ _) | (with_reducible refine Kd.C_drewN ?_ _) | (with_reducible refine Kd.C_drew ?_))); (case side2 => exact HC1.out); (case side3 => repeat (first | exact (Kd.R_reads' HO_7.out).2.2 | (with_reducible refine Kd.C_alloc ?_ _) | (with_reducible refine Kd.C_drewN ?_ _) | (with_reducible refine Kd.C_drew ?_))); (case side4 => exact (Kd.R_reads' HO_7.out).2.1); rintro e w39 ⟨v557, rfl, ho0, hb⟩; refine ⟨_, rfl, ?_⟩; have n0_ := Aside0.mk (Kd.R_elder' (by (with_reducible repeat (first | apply Kd.R_alloc | apply Kd.R_drewN | apply Kd.R_drew)); exact HO_7.out) (Kd.R_base ho0) hb); have n1_ := Aside0.mk (Kd.R_lower (Kd.R_new' ho0 (Kd.R_lt (by (with_reducible repeat (first | apply Kd.R_alloc | apply Kd.R_drewN | apply Kd.R_drew)); exact HO_7.out))) (below_size (by repeat (first | (with_reducible first | exact HB.out | apply below_alloc | apply pw_below_drewN | apply below_drew1) | exact HB.out)))); have n2_ := Aside0.mk (below_step (by repeat (first | (with_reducible first | exact HB.out | apply below_alloc | apply pw_below_drewN | apply below_drew1) | exact HB.out)) hb); clear HO_7; clear HB; have HO_7 := n0_; have HO558 := n1_; have HB := n2_; clear n0_ n1_ n2_; (try clear hb); (try clear hb2); (try clear hk); (try clear hi); (try clear ho0)))
                  go_ret
                  exact ⟨by first | rfl | (simp [errW_none, errW_some] <;> rfl) | (simp [*, errW_none, errW_some] <;> rfl), by repeat (first | (with_reducible first | exact HB.out | apply below_alloc | apply pw_below_drewN | apply below_drew1) | exact HB.out)⟩
        · rw [if_neg c12] at H
          have c12b0 : (t542 == 0) = false := beq_eq_false_iff_ne.mpr c12
          have c12b1 : (t542 != 0) = true := bne_iff_ne.mpr c12
          by_cases c40 : t541.toList = ([] : List UInt8)
          · rw [if_pos c40] at H
            have c40b0 : (t541.toList == ([] : List UInt8)) = true := beq_iff_eq.mpr c40
            have c40b1 : (t541.toList != ([] : List UInt8)) = false := bne_eq_false_iff_eq.mpr c40
            clear c40
            obtain rfl := Option.some.inj H
            obtain ⟨Ao41, co41, eo41⟩ := Kd.R_slice HO_7.out
            subst eo41
            go_wp2
            go_ret
            exact ⟨by first | rfl | (simp [errW_none, errW_some] <;> rfl) | (simp [*, errW_none, errW_some] <;> rfl), by repeat (first | (with_reducible first | exact HB.out | apply below_alloc | apply pw_below_drewN | apply below_drew1) | exact HB.out)⟩
          · rw [if_neg c40] at H
            have c40b0 : (t541.toList == ([] : List UInt8)) = false := beq_eq_false_iff_ne.mpr c40
            have c40b1 : (t541.toList != ([] : List UInt8)) = true := bne_iff_ne.mpr c40
            obtain rfl := Option.some.inj H
            go_wp2
            go_ret
            exact ⟨by first | rfl | (simp [errW_none, errW_some] <;> rfl) | (simp [*, errW_none, errW_some] <;> rfl), by repeat (first | (with_reducible first | exact HB.out | apply below_alloc | apply pw_below_drewN | apply below_drew1) | exact HB.out)⟩

end Go.Proofs.Ytaihajmdngoeiaa.F
