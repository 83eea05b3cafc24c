/- Texts of the proof of one law (Round), part 1: functions printed as Lean functions with their walks, and what is proved of them. Conditions: those of each theorem. -/
import Derived.Test.YtaihajmdngoeiaaDoorZRound0
import Derived.Lib.Hide
-- A text of this session's own program (wip/myprint.sh over a changed print tool): functions and their walks
namespace Go.Proofs.YtaihajmdngoeiaaDoor.F
open Go.RowKit Go.Proofs.YtaihajmdngoeiaaDoorW.PrintWords Go.Proofs.YtaihajmdngoeiaaDoorW.PrintLast Go.Proofs.YtaihajmdngoeiaaDoorW.PrintMore
attribute [local go_sem] max2_int min2_int max_two min_two max_three min_three max_four min_four   -- for this text's walks alone
set_option linter.unusedVariables false
set_option linter.unusedSimpArgs false

/-! ### edits_scanner_quoted: function 31 -/
mutual
def edits_scanner_quoted.l0 : Nat → List Int → ByteArray → Int → Bool → Option (ByteArray × ByteArray × Int × Bool)
  | 0, _, _, _, _ => none
  | k + 1, x3, x1000, x1001, x1002 => if x1002 = true then (some (strOfNums x3, x1000, x1001, x1002)) else (if x1001 = (x1000.size : Int) then (edits_scanner_quoted.j1 k x3 true x1000 x1001 x1002) else (if 0 ≤ x1001 then (if x1001 < (x1000.size : Int) then (edits_scanner_quoted.j1 k x3 ((bt x1000 x1001) == 10) x1000 x1001 x1002) else (none)) else (none)))
def edits_scanner_quoted.j1 : Nat → List Int → Bool → ByteArray → Int → Bool → Option (ByteArray × ByteArray × Int × Bool)
  | 0, _, _, _, _, _ => none
  | k + 1, x3, x33, x1000, x1001, x1002 => if x33 = true then (some (strOfNums x3, x1000, x1001, true)) else (if 0 ≤ x1001 then (if x1001 < (x1000.size : Int) then (if (bt x1000 x1001) = 34 then (some (strOfNums x3, x1000, wrap64 (x1001 + 1), x1002)) else (if (bt x1000 x1001) = 92 then (if (wrap64 (x1001 + 1)) = (x1000.size : Int) then (some (strOfNums x3, x1000, wrap64 (x1001 + 1), true)) else (if 0 ≤ (wrap64 (x1001 + 1)) then (if (wrap64 (x1001 + 1)) < (x1000.size : Int) then (if (bt x1000 (wrap64 (x1001 + 1))) = 34 then (edits_scanner_quoted.j2 k x3 (bt x1000 (wrap64 (x1001 + 1))) (bt x1000 (wrap64 (x1001 + 1))) ((bt x1000 (wrap64 (x1001 + 1))) == 34) x1000 (wrap64 (x1001 + 1)) x1002) else (edits_scanner_quoted.j2 k x3 (bt x1000 (wrap64 (x1001 + 1))) (bt x1000 (wrap64 (x1001 + 1))) ((bt x1000 (wrap64 (x1001 + 1))) == 92) x1000 (wrap64 (x1001 + 1)) x1002)) else (none)) else (none))) else (if x3.length < 140737488355328 then (edits_scanner_quoted.l0 k (x3 ++ [bt x1000 x1001]) x1000 (wrap64 (x1001 + 1)) x1002) else (none)))) else (none)) else (none))
def edits_scanner_quoted.j2 : Nat → List Int → Int → Int → Bool → ByteArray → Int → Bool → Option (ByteArray × ByteArray × Int × Bool)
  | 0, _, _, _, _, _, _, _ => none
  | k + 1, x3, x4, x86, x90, x1000, x1001, x1002 => if x90 = true then (if x3.length < 140737488355328 then (edits_scanner_quoted.l0 k (x3 ++ [x4]) x1000 (wrap64 (x1001 + 1)) x1002) else (none)) else (if x86 = 110 then (if x3.length < 140737488355328 then (edits_scanner_quoted.l0 k (x3 ++ [10]) x1000 (wrap64 (x1001 + 1)) x1002) else (none)) else (edits_scanner_quoted.l0 k x3 x1000 x1001 true))
end
def edits_scanner_quoted.f (k : Nat) (s0_0 : ByteArray) (s0_1 : Int) (s0_2 : Bool) : Option (ByteArray × ByteArray × Int × Bool) := (edits_scanner_byte.f s0_0 s0_1 s0_2 34).bind fun bt191 => (edits_scanner_quoted.l0 k ([] : List Int) bt191.1 bt191.2.1 bt191.2.2)
set_option maxHeartbeats 8000000 in
set_option maxRecDepth 100000 in
theorem edits_scanner_quoted.calls (k : Nat) (g : Nat) (s0_0 : ByteArray) (s0_1 : Int) (s0_2 : Bool) (r1 : ByteArray) (r2 : ByteArray) (r3 : Int) (r4 : Bool) (w0 w : World) (hI : IsS65 w0 w g s0_0 s0_1 s0_2) (hB : Below w0.heap.size w0 w) (h : edits_scanner_quoted.f k s0_0 s0_1 s0_2 = some (r1, r2, r3, r4)) :
    Calls Tryd.prog 31 #[.pointer (some ⟨g, 0, none⟩)] w fun e w' => e = .returned (.string r1) ∧ IsS65 w0 w' g r2 r3 r4 ∧ Below w0.heap.size w0 w' ∧ KeepBut w w' g none := by
  have HI0 := Aside0.mk hI
  have HK := Aside0.mk (KeepBut.refl w g none)
  have HL := Aside0.mk hB.size
  clear hI
  have HW0 := Aside0.mk hB.size
  have HB := Aside0.mk hB
  clear hB
  have H : ((edits_scanner_byte.f s0_0 s0_1 s0_2 34).bind fun bt191 => (edits_scanner_quoted.l0 k ([] : List Int) bt191.1 bt191.2.1 bt191.2.2)) = some (r1, r2, r3, r4) := h
  clear h
  replace H := Option.bind_eq_some_iff.mp H
  obtain ⟨⟨t191, t192, t193⟩, A20, H⟩ := H
  replace H : (edits_scanner_quoted.l0 k ([] : List Int) t191 t192 t193) = some (r1, r2, r3, r4) := H
  have A2 := Aside0.mk A20
  clear A20
  have H' := Aside0.mk H
  clear H
  go_enter Tryd.func31, Tryd.ntmps31
  go_wp2_with (first | (go_at_call 32; (with_reducible refine (edits_scanner_byte.calls g s0_0 s0_1 s0_2 34 t191 t192 t193 w0 _ ?side1 ?side2 A2.out).mono ?_); (case side1 => repeat (first | (with_reducible first | exact HI0.out | apply IsS65.alloc | apply IsS65.drewN | apply IsS65.drew | apply IsS65.set_0 | apply IsS65.set_1 | apply IsS65.set_2) | exact HI0.out)); (case side2 => repeat (first | (with_reducible first | exact HB.out | apply below_alloc | apply pw_below_drewN | apply below_drew1 | refine below_set ?_ (IsS65.ge HI0.out)) | exact HB.out)); rintro e w3 ⟨rfl, hi, hb, hk⟩; have n0_ := Aside0.mk (KeepBut.trans (by repeat (first | (with_reducible first | exact HK.out | apply KeepBut.set_ | apply keep_drewN | apply keep_drew | apply keep_alloc) | exact HK.out)) hk (.inl rfl)); have n1_ := Aside0.mk (hb); have n2_ := Aside0.mk (hi); clear HK; clear HB; clear HI0; have HK := n0_; have HB := n1_; have HI0 := n2_; clear n0_ n1_ n2_; (try clear hb); (try clear hb2); (try clear hk); (try clear hi)))
  repeat (go_quiet (first | (go_at_call 32; (with_reducible refine (edits_scanner_byte.calls g s0_0 s0_1 s0_2 34 t191 t192 t193 w0 _ ?side1 ?side2 A2.out).mono ?_); (case side1 => repeat (first | (with_reducible first | exact HI0.out | apply IsS65.alloc | apply IsS65.drewN | apply IsS65.drew | apply IsS65.set_0 | apply IsS65.set_1 | apply IsS65.set_2) | exact HI0.out)); (case side2 => repeat (first | (with_reducible first | exact HB.out | apply below_alloc | apply pw_below_drewN | apply below_drew1 | refine below_set ?_ (IsS65.ge HI0.out)) | exact HB.out)); rintro e w3 ⟨rfl, hi, hb, hk⟩; have n0_ := Aside0.mk (KeepBut.trans (by repeat (first | (with_reducible first | exact HK.out | apply KeepBut.set_ | apply keep_drewN | apply keep_drew | apply keep_alloc) | exact HK.out)) hk (.inl rfl)); have n1_ := Aside0.mk (hb); have n2_ := Aside0.mk (hi); clear HK; clear HB; clear HI0; have HK := n0_; have HB := n1_; have HI0 := n2_; clear n0_ n1_ n2_; (try clear hb); (try clear hb2); (try clear hk); (try clear hi))); try go_wp2_with (first | (go_at_call 32; (with_reducible refine (edits_scanner_byte.calls g s0_0 s0_1 s0_2 34 t191 t192 t193 w0 _ ?side1 ?side2 A2.out).mono ?_); (case side1 => repeat (first | (with_reducible first | exact HI0.out | apply IsS65.alloc | apply IsS65.drewN | apply IsS65.drew | apply IsS65.set_0 | apply IsS65.set_1 | apply IsS65.set_2) | exact HI0.out)); (case side2 => repeat (first | (with_reducible first | exact HB.out | apply below_alloc | apply pw_below_drewN | apply below_drew1 | refine below_set ?_ (IsS65.ge HI0.out)) | exact HB.out)); rintro e w3 ⟨rfl, hi, hb, hk⟩; have n0_ := Aside0.mk (KeepBut.trans (by repeat (first | (with_reducible first | exact HK.out | apply KeepBut.set_ | apply keep_drewN | apply keep_drew | apply keep_alloc) | exact HK.out)) hk (.inl rfl)); have n1_ := Aside0.mk (hb); have n2_ := Aside0.mk (hi); clear HK; clear HB; clear HI0; have HK := n0_; have HB := n1_; have HI0 := n2_; clear n0_ n1_ n2_; (try clear hb); (try clear hb2); (try clear hk); (try clear hi))))
  go_loopg [3] k (fun kq v3 w' => ∃ (x3_1 : List Int) (x1001_1 : Int) (x1002_1 : Bool), Aside0 (edits_scanner_quoted.l0 kq x3_1 t191 x1001_1 x1002_1 = some (r1, r2, r3, r4)) ∧ Aside0 (kq ≤ k) ∧ Aside0 (Kd.R (Kd.int .u8) 5 w' w.heap.size (fun _ => True) v3 x3_1) ∧ Aside0 (IsS65 w0 w' g t191 x1001_1 x1002_1) ∧ Aside0 (KeepBut w w' g none) ∧ Aside0 (Below w0.heap.size w0 w'))
  case atStart => exact ⟨(([] : List Int)), (t192), (t193), H', ⟨Nat.le_refl _⟩, ⟨by first | exact Kd.R_nil _ _ _ _ _ | exact Kd.N_nil _ _ _ _ _ | exact Kd.V_nil _ _ _ _ _ | exact Kd.Q_nil _ _ _ _ _ | exact Kd.S_nil _ _ _ _ _⟩, ⟨by repeat (first | (with_reducible first | exact HI0.out | apply IsS65.alloc | apply IsS65.drewN | apply IsS65.drew | apply IsS65.set_0 | apply IsS65.set_1 | apply IsS65.set_2) | exact HI0.out)⟩, ⟨by repeat (first | (with_reducible first | exact HK.out | apply KeepBut.set_ | apply keep_drewN | apply keep_drew | apply keep_alloc) | exact HK.out)⟩, ⟨by repeat (first | (with_reducible first | exact HB.out | apply below_alloc | apply pw_below_drewN | apply below_drew1 | refine below_set ?_ (IsS65.ge HI0.out)) | exact HB.out)⟩⟩
  case round =>
    clear H'
    try clear p2
    try clear c3
    obtain ⟨x3_1, x1001_1, x1002_1, HA, HK1, HO_3, HI0, HK, HB⟩ := hrel
    cases gk with
    | zero => exact absurd HA.out (by simp [edits_scanner_quoted.l0])
    | succ k1 =>
      have H := HA.out
      clear HA
      simp only [edits_scanner_quoted.l0] at H
      by_cases c4 : x1002_1 = true
      · subst c4
        have H1 : (some (strOfNums x3_1, t191, x1001_1, true)) = some (r1, r2, r3, r4) := by rw [if_pos rfl] at H; exact H
        clear H
        have H := H1
        clear H1
        simp only [Option.some.injEq, Prod.mk.injEq] at H
        obtain ⟨rfl, rfl, rfl, rfl⟩ := H
        obtain ⟨HGz5, hgz5⟩ := HI0.out
        have hcz5_0 := cellS65_0 HGz5
        have hcz5_1 := cellS65_1 HGz5
        have hcz5_2 := cellS65_2 HGz5
        have hfz5_0 := blk_frozen HGz5 0
        have hfz5_1 := blk_frozen HGz5 1
        have hfz5_2 := blk_frozen HGz5 2
        have hcv6s := own_string (P := Tryd.prog) Tryd.underlying59 Tryd.underlying5 Tryd.underlying9 (Kd.own_of_R (Kd.R_set HO_3.out HGz5 (by decide) 2 (.bool true)))
        have hcv6u := fun (n_ : Nat) (u_ : Value) => own_string (P := Tryd.prog) Tryd.underlying59 Tryd.underlying5 Tryd.underlying9 (Kd.own_of_R (Kd.R_set (Kd.R_drewN HO_3.out n_) (blk_drewN HGz5 n_) (by decide) 1 u_))
        have hcv6t := fun (n_ m_ : Nat) (u_ v_ : Value) => own_string (P := Tryd.prog) Tryd.underlying59 Tryd.underlying5 Tryd.underlying9 (Kd.own_of_R (Kd.R_set (Kd.R_drewN (Kd.R_set (Kd.R_drewN HO_3.out n_) (blk_drewN HGz5 n_) (by decide) 1 u_) m_) (blk_drewN (blk_put (blk_drewN HGz5 n_) 1 u_ rfl) m_) (by decide) 2 v_))
        clear HGz5 hgz5
        have hcv6 := own_string (P := Tryd.prog) Tryd.underlying59 Tryd.underlying5 Tryd.underlying9 (Kd.own_of_R HO_3.out)
        go_wp2
        repeat (go_quiet (fail); try go_wp2)
        go_ret
        exact ⟨by first | rfl | (simp [errW_none, errW_some] <;> rfl) | (simp [*, errW_none, errW_some] <;> rfl), by repeat (first | (with_reducible first | exact HI0.out | apply IsS65.alloc | apply IsS65.drewN | apply IsS65.drew | apply IsS65.set_0 | apply IsS65.set_1 | apply IsS65.set_2) | exact HI0.out), by repeat (first | (with_reducible first | exact HB.out | apply below_alloc | apply pw_below_drewN | apply below_drew1 | refine below_set ?_ (IsS65.ge HI0.out)) | exact HB.out), by repeat (first | (with_reducible first | exact HK.out | apply KeepBut.set_ | apply keep_drewN | apply keep_drew | apply keep_alloc) | exact HK.out)⟩
      · replace c4 := Bool.eq_false_iff.mpr c4
        subst c4
        have H1 : (if x1001_1 = (t191.size : Int) then (edits_scanner_quoted.j1 k1 x3_1 true t191 x1001_1 false) else (if 0 ≤ x1001_1 then (if x1001_1 < (t191.size : Int) then (edits_scanner_quoted.j1 k1 x3_1 ((bt t191 x1001_1) == 10) t191 x1001_1 false) else (none)) else (none))) = some (r1, r2, r3, r4) := by rw [if_neg (show ¬ (false = true) by decide)] at H; exact H
        clear H
        have H := H1
        clear H1
        have HC7 := Aside0.mk H
        clear H
        obtain ⟨HGz8, hgz8⟩ := HI0.out
        have hcz8_0 := cellS65_0 HGz8
        have hcz8_1 := cellS65_1 HGz8
        have hcz8_2 := cellS65_2 HGz8
        have hfz8_0 := blk_frozen HGz8 0
        have hfz8_1 := blk_frozen HGz8 1
        have hfz8_2 := blk_frozen HGz8 2
        clear HGz8 hgz8
        go_upto_region 4 with (fail)
        repeat (go_quiet (fail); go_upto_region 4 with (fail))
        go_cut [33] (fun v33 wc => ∃ (kq : Nat) (x33_6 : Bool), v33 = .bool x33_6 ∧ Aside0 (edits_scanner_quoted.j1 kq x3_1 x33_6 t191 x1001_1 false = some (r1, r2, r3, r4)) ∧ Aside0 (kq ≤ k1) ∧ Aside0 (Kd.R (Kd.int .u8) 5 wc w.heap.size (fun _ => True) u3 x3_1) ∧ Aside0 (IsS65 w0 wc g t191 x1001_1 false) ∧ Aside0 (KeepBut w wc g none) ∧ Aside0 (Below w0.heap.size w0 wc))
        case first =>
          have H := HC7.out
          clear HC7
          by_cases c9 : x1001_1 = (t191.size : Int)
          · rw [if_pos c9] at H
            have c9b0 : (x1001_1 == (t191.size : Int)) = true := beq_iff_eq.mpr c9
            have c9b1 : (x1001_1 != (t191.size : Int)) = false := bne_eq_false_iff_eq.mpr c9
            clear c9
            (first | rw [c9b0] | (simp only [i64_w, i32_w]; rw [c9b0]) | skip)
            have H' := Aside0.mk H
            clear H
            obtain ⟨HGz10, hgz10⟩ := HI0.out
            have hcz10_0 := cellS65_0 HGz10
            have hcz10_1 := cellS65_1 HGz10
            have hcz10_2 := cellS65_2 HGz10
            have hfz10_0 := blk_frozen HGz10 0
            have hfz10_1 := blk_frozen HGz10 1
            have hfz10_2 := blk_frozen HGz10 2
            clear HGz10 hgz10
            go_wp2
            repeat (go_quiet (fail); try go_wp2)
            go_meet
            case rel => exact ⟨_, (true), (by first | rfl | (simp; done) | (simp [*]; done)), H', ⟨by have := HK1.out; first | omega | exact Nat.le_refl _⟩, ⟨by (with_reducible repeat (first | apply Kd.R_alloc | apply Kd.R_drewN | apply Kd.R_drew)); exact HO_3.out⟩, ⟨by repeat (first | (with_reducible first | exact HI0.out | apply IsS65.alloc | apply IsS65.drewN | apply IsS65.drew | apply IsS65.set_0 | apply IsS65.set_1 | apply IsS65.set_2) | exact HI0.out)⟩, ⟨by repeat (first | (with_reducible first | exact HK.out | apply KeepBut.set_ | apply keep_drewN | apply keep_drew | apply keep_alloc) | exact HK.out)⟩, ⟨by repeat (first | (with_reducible first | exact HB.out | apply below_alloc | apply pw_below_drewN | apply below_drew1 | refine below_set ?_ (IsS65.ge HI0.out)) | exact HB.out)⟩⟩
          · rw [if_neg c9] at H
            have c9b0 : (x1001_1 == (t191.size : Int)) = false := beq_eq_false_iff_ne.mpr c9
            have c9b1 : (x1001_1 != (t191.size : Int)) = true := bne_iff_ne.mpr c9
            (first | rw [c9b0] | (simp only [i64_w, i32_w]; rw [c9b0]) | skip)
            by_cases c11 : 0 ≤ x1001_1
            · rw [if_pos c11] at H
              have c11b0 : decide (0 ≤ x1001_1) = true := decide_eq_true c11
              clear c11
              by_cases c12 : x1001_1 < (t191.size : Int)
              · rw [if_pos c12] at H
                have c12b0 : decide (x1001_1 < (t191.size : Int)) = true := decide_eq_true c12
                clear c12
                have H' := Aside0.mk H
                clear H
                obtain ⟨HGz14, hgz14⟩ := HI0.out
                have hcz14_0 := cellS65_0 HGz14
                have hcz14_1 := cellS65_1 HGz14
                have hcz14_2 := cellS65_2 HGz14
                have hfz14_0 := blk_frozen HGz14 0
                have hfz14_1 := blk_frozen HGz14 1
                have hfz14_2 := blk_frozen HGz14 2
                clear HGz14 hgz14
                have p13 : 0 ≤ (x1001_1 : Int) := of_decide_eq_true (by first | (with_reducible assumption) | assumption)
                have q13 : x1001_1 < (t191.size : Int) := of_decide_eq_true (by first | (with_reducible assumption) | assumption)
                have hx13 := bt_at t191 x1001_1
                replace p13 := eq_true p13
                replace q13 := eq_true q13
                go_wp2
                repeat (go_quiet (fail); try go_wp2)
                go_meet
                case rel => exact ⟨_, (((bt t191 x1001_1) == 10)), (by first | rfl | (simp; done) | (simp [*]; done)), H', ⟨by have := HK1.out; first | omega | exact Nat.le_refl _⟩, ⟨by (with_reducible repeat (first | apply Kd.R_alloc | apply Kd.R_drewN | apply Kd.R_drew)); exact HO_3.out⟩, ⟨by repeat (first | (with_reducible first | exact HI0.out | apply IsS65.alloc | apply IsS65.drewN | apply IsS65.drew | apply IsS65.set_0 | apply IsS65.set_1 | apply IsS65.set_2) | exact HI0.out)⟩, ⟨by repeat (first | (with_reducible first | exact HK.out | apply KeepBut.set_ | apply keep_drewN | apply keep_drew | apply keep_alloc) | exact HK.out)⟩, ⟨by repeat (first | (with_reducible first | exact HB.out | apply below_alloc | apply pw_below_drewN | apply below_drew1 | refine below_set ?_ (IsS65.ge HI0.out)) | exact HB.out)⟩⟩
              · rw [if_neg c12] at H
                exact absurd H (by simp)
            · rw [if_neg c11] at H
              exact absurd H (by simp)
        case rest =>
          clear HC7
          try clear c1
          try clear p1
          try clear q1
          try clear hx1
          try clear p2
          try clear c3
          try clear c4
          try clear hcv6
          try clear c9
          try clear c9b0
          try clear c9b1
          try clear c11
          try clear c11b0
          try clear c12
          try clear c12b0
          try clear p13
          try clear q13
          try clear hx13
          try clear hcz10_0
          try clear hcz10_1
          try clear hcz10_2
          try clear hcz14_0
          try clear hcz14_1
          try clear hcz14_2
          try clear hcz5_0
          try clear hcz5_1
          try clear hcz5_2
          try clear hcz8_0
          try clear hcz8_1
          try clear hcz8_2
          try clear hfz10_0
          try clear hfz10_1
          try clear hfz10_2
          try clear hfz14_0
          try clear hfz14_1
          try clear hfz14_2
          try clear hfz5_0
          try clear hfz5_1
          try clear hfz5_2
          try clear hfz8_0
          try clear hfz8_1
          try clear hfz8_2
          try clear p13
          try clear p2
          try clear q13
          obtain ⟨kq, x33_6, rfl, HA, HJ6, HO_3, HI0, HK, HB⟩ := hcut
          cases kq with
          | zero => exact absurd HA.out (by simp [edits_scanner_quoted.j1])
          | succ kj6 =>
            have H := HA.out
            clear HA
            simp only [edits_scanner_quoted.j1] at H
            by_cases c15 : x33_6 = true
            · subst c15
              have H1 : (some (strOfNums x3_1, t191, x1001_1, true)) = some (r1, r2, r3, r4) := by rw [if_pos rfl] at H; exact H
              clear H
              have H := H1
              clear H1
              simp only [Option.some.injEq, Prod.mk.injEq] at H
              obtain ⟨rfl, rfl, rfl, rfl⟩ := H
              obtain ⟨HGz16, hgz16⟩ := HI0.out
              have hcz16_0 := cellS65_0 HGz16
              have hcz16_1 := cellS65_1 HGz16
              have hcz16_2 := cellS65_2 HGz16
              have hfz16_0 := blk_frozen HGz16 0
              have hfz16_1 := blk_frozen HGz16 1
              have hfz16_2 := blk_frozen HGz16 2
              have hcv17s := own_string (P := Tryd.prog) Tryd.underlying59 Tryd.underlying5 Tryd.underlying9 (Kd.own_of_R (Kd.R_set HO_3.out HGz16 (by decide) 2 (.bool true)))
              have hcv17u := fun (n_ : Nat) (u_ : Value) => own_string (P := Tryd.prog) Tryd.underlying59 Tryd.underlying5 Tryd.underlying9 (Kd.own_of_R (Kd.R_set (Kd.R_drewN HO_3.out n_) (blk_drewN HGz16 n_) (by decide) 1 u_))
              have hcv17t := fun (n_ m_ : Nat) (u_ v_ : Value) => own_string (P := Tryd.prog) Tryd.underlying59 Tryd.underlying5 Tryd.underlying9 (Kd.own_of_R (Kd.R_set (Kd.R_drewN (Kd.R_set (Kd.R_drewN HO_3.out n_) (blk_drewN HGz16 n_) (by decide) 1 u_) m_) (blk_drewN (blk_put (blk_drewN HGz16 n_) 1 u_ rfl) m_) (by decide) 2 v_))
              clear HGz16 hgz16
              have hcv17 := own_string (P := Tryd.prog) Tryd.underlying59 Tryd.underlying5 Tryd.underlying9 (Kd.own_of_R HO_3.out)
              go_wp2
              repeat (go_quiet (fail); try go_wp2)
              go_ret
              exact ⟨by first | rfl | (simp [errW_none, errW_some] <;> rfl) | (simp [*, errW_none, errW_some] <;> rfl), by repeat (first | (with_reducible first | exact HI0.out | apply IsS65.alloc | apply IsS65.drewN | apply IsS65.drew | apply IsS65.set_0 | apply IsS65.set_1 | apply IsS65.set_2) | exact HI0.out), by repeat (first | (with_reducible first | exact HB.out | apply below_alloc | apply pw_below_drewN | apply below_drew1 | refine below_set ?_ (IsS65.ge HI0.out)) | exact HB.out), by repeat (first | (with_reducible first | exact HK.out | apply KeepBut.set_ | apply keep_drewN | apply keep_drew | apply keep_alloc) | exact HK.out)⟩
            · replace c15 := Bool.eq_false_iff.mpr c15
              subst c15
              have H1 : (if 0 ≤ x1001_1 then (if x1001_1 < (t191.size : Int) then (if (bt t191 x1001_1) = 34 then (some (strOfNums x3_1, t191, wrap64 (x1001_1 + 1), false)) else (if (bt t191 x1001_1) = 92 then (if (wrap64 (x1001_1 + 1)) = (t191.size : Int) then (some (strOfNums x3_1, t191, wrap64 (x1001_1 + 1), true)) else (if 0 ≤ (wrap64 (x1001_1 + 1)) then (if (wrap64 (x1001_1 + 1)) < (t191.size : Int) then (if (bt t191 (wrap64 (x1001_1 + 1))) = 34 then (edits_scanner_quoted.j2 kj6 x3_1 (bt t191 (wrap64 (x1001_1 + 1))) (bt t191 (wrap64 (x1001_1 + 1))) ((bt t191 (wrap64 (x1001_1 + 1))) == 34) t191 (wrap64 (x1001_1 + 1)) false) else (edits_scanner_quoted.j2 kj6 x3_1 (bt t191 (wrap64 (x1001_1 + 1))) (bt t191 (wrap64 (x1001_1 + 1))) ((bt t191 (wrap64 (x1001_1 + 1))) == 92) t191 (wrap64 (x1001_1 + 1)) false)) else (none)) else (none))) else (if x3_1.length < 140737488355328 then (edits_scanner_quoted.l0 kj6 (x3_1 ++ [bt t191 x1001_1]) t191 (wrap64 (x1001_1 + 1)) false) else (none)))) else (none)) else (none)) = some (r1, r2, r3, r4) := by rw [if_neg (show ¬ (false = true) by decide)] at H; exact H
              clear H
              have H := H1
              clear H1
              by_cases c18 : 0 ≤ x1001_1
              · rw [if_pos c18] at H
                have c18b0 : decide (0 ≤ x1001_1) = true := decide_eq_true c18
                clear c18
                by_cases c19 : x1001_1 < (t191.size : Int)
                · rw [if_pos c19] at H
                  have c19b0 : decide (x1001_1 < (t191.size : Int)) = true := decide_eq_true c19
                  clear c19
                  by_cases c21 : (bt t191 x1001_1) = 34
                  · rw [if_pos c21] at H
                    have c21b0 : ((bt t191 x1001_1) == 34) = true := beq_iff_eq.mpr c21
                    have c21b1 : ((bt t191 x1001_1) != 34) = false := bne_eq_false_iff_eq.mpr c21
                    clear c21
                    simp only [Option.some.injEq, Prod.mk.injEq] at H
                    obtain ⟨rfl, rfl, rfl, rfl⟩ := H
                    obtain ⟨HGz22, hgz22⟩ := HI0.out
                    have hcz22_0 := cellS65_0 HGz22
                    have hcz22_1 := cellS65_1 HGz22
                    have hcz22_2 := cellS65_2 HGz22
                    have hfz22_0 := blk_frozen HGz22 0
                    have hfz22_1 := blk_frozen HGz22 1
                    have hfz22_2 := blk_frozen HGz22 2
                    have hcv23s := own_string (P := Tryd.prog) Tryd.underlying59 Tryd.underlying5 Tryd.underlying9 (Kd.own_of_R (Kd.R_set HO_3.out HGz22 (by decide) 2 (.bool true)))
                    have hcv23u := fun (n_ : Nat) (u_ : Value) => own_string (P := Tryd.prog) Tryd.underlying59 Tryd.underlying5 Tryd.underlying9 (Kd.own_of_R (Kd.R_set (Kd.R_drewN HO_3.out n_) (blk_drewN HGz22 n_) (by decide) 1 u_))
                    have hcv23t := fun (n_ m_ : Nat) (u_ v_ : Value) => own_string (P := Tryd.prog) Tryd.underlying59 Tryd.underlying5 Tryd.underlying9 (Kd.own_of_R (Kd.R_set (Kd.R_drewN (Kd.R_set (Kd.R_drewN HO_3.out n_) (blk_drewN HGz22 n_) (by decide) 1 u_) m_) (blk_drewN (blk_put (blk_drewN HGz22 n_) 1 u_ rfl) m_) (by decide) 2 v_))
                    clear HGz22 hgz22
                    have p20 : 0 ≤ (x1001_1 : Int) := of_decide_eq_true (by first | (with_reducible assumption) | assumption)
                    have q20 : x1001_1 < (t191.size : Int) := of_decide_eq_true (by first | (with_reducible assumption) | assumption)
                    have hx20 := bt_at t191 x1001_1
                    replace p20 := eq_true p20
                    replace q20 := eq_true q20
                    have hcv23 := own_string (P := Tryd.prog) Tryd.underlying59 Tryd.underlying5 Tryd.underlying9 (Kd.own_of_R HO_3.out)
                    go_wp2
                    repeat (go_quiet (fail); try go_wp2)
                    go_ret
                    exact ⟨by first | rfl | (simp [errW_none, errW_some] <;> rfl) | (simp [*, errW_none, errW_some] <;> rfl), by repeat (first | (with_reducible first | exact HI0.out | apply IsS65.alloc | apply IsS65.drewN | apply IsS65.drew | apply IsS65.set_0 | apply IsS65.set_1 | apply IsS65.set_2) | exact HI0.out), by repeat (first | (with_reducible first | exact HB.out | apply below_alloc | apply pw_below_drewN | apply below_drew1 | refine below_set ?_ (IsS65.ge HI0.out)) | exact HB.out), by repeat (first | (with_reducible first | exact HK.out | apply KeepBut.set_ | apply keep_drewN | apply keep_drew | apply keep_alloc) | exact HK.out)⟩
                  · rw [if_neg c21] at H
                    have c21b0 : ((bt t191 x1001_1) == 34) = false := beq_eq_false_iff_ne.mpr c21
                    have c21b1 : ((bt t191 x1001_1) != 34) = true := bne_iff_ne.mpr c21
                    by_cases c24 : (bt t191 x1001_1) = 92
                    · rw [if_pos c24] at H
                      have c24b0 : ((bt t191 x1001_1) == 92) = true := beq_iff_eq.mpr c24
                      have c24b1 : ((bt t191 x1001_1) != 92) = false := bne_eq_false_iff_eq.mpr c24
                      clear c24
                      by_cases c25 : (wrap64 (x1001_1 + 1)) = (t191.size : Int)
                      · rw [if_pos c25] at H
                        have c25b0 : ((wrap64 (x1001_1 + 1)) == (t191.size : Int)) = true := beq_iff_eq.mpr c25
                        have c25b1 : ((wrap64 (x1001_1 + 1)) != (t191.size : Int)) = false := bne_eq_false_iff_eq.mpr c25
                        clear c25
                        simp only [Option.some.injEq, Prod.mk.injEq] at H
                        obtain ⟨rfl, rfl, rfl, rfl⟩ := H
                        obtain ⟨HGz26, hgz26⟩ := HI0.out
                        have hcz26_0 := cellS65_0 HGz26
                        have hcz26_1 := cellS65_1 HGz26
                        have hcz26_2 := cellS65_2 HGz26
                        have hfz26_0 := blk_frozen HGz26 0
                        have hfz26_1 := blk_frozen HGz26 1
                        have hfz26_2 := blk_frozen HGz26 2
                        have hcv27s := own_string (P := Tryd.prog) Tryd.underlying59 Tryd.underlying5 Tryd.underlying9 (Kd.own_of_R (Kd.R_set HO_3.out HGz26 (by decide) 2 (.bool true)))
                        have hcv27u := fun (n_ : Nat) (u_ : Value) => own_string (P := Tryd.prog) Tryd.underlying59 Tryd.underlying5 Tryd.underlying9 (Kd.own_of_R (Kd.R_set (Kd.R_drewN HO_3.out n_) (blk_drewN HGz26 n_) (by decide) 1 u_))
                        have hcv27t := fun (n_ m_ : Nat) (u_ v_ : Value) => own_string (P := Tryd.prog) Tryd.underlying59 Tryd.underlying5 Tryd.underlying9 (Kd.own_of_R (Kd.R_set (Kd.R_drewN (Kd.R_set (Kd.R_drewN HO_3.out n_) (blk_drewN HGz26 n_) (by decide) 1 u_) m_) (blk_drewN (blk_put (blk_drewN HGz26 n_) 1 u_ rfl) m_) (by decide) 2 v_))
                        clear HGz26 hgz26
                        have p20 : 0 ≤ (x1001_1 : Int) := of_decide_eq_true (by first | (with_reducible assumption) | assumption)
                        have q20 : x1001_1 < (t191.size : Int) := of_decide_eq_true (by first | (with_reducible assumption) | assumption)
                        have hx20 := bt_at t191 x1001_1
                        replace p20 := eq_true p20
                        replace q20 := eq_true q20
                        have hcv27 := own_string (P := Tryd.prog) Tryd.underlying59 Tryd.underlying5 Tryd.underlying9 (Kd.own_of_R HO_3.out)
                        go_wp2
                        repeat (go_quiet (fail); try go_wp2)
                        go_ret
                        exact ⟨by first | rfl | (simp [errW_none, errW_some] <;> rfl) | (simp [*, errW_none, errW_some] <;> rfl), by repeat (first | (with_reducible first | exact HI0.out | apply IsS65.alloc | apply IsS65.drewN | apply IsS65.drew | apply IsS65.set_0 | apply IsS65.set_1 | apply IsS65.set_2) | exact HI0.out), by repeat (first | (with_reducible first | exact HB.out | apply below_alloc | apply pw_below_drewN | apply below_drew1 | refine below_set ?_ (IsS65.ge HI0.out)) | exact HB.out), by repeat (first | (with_reducible first | exact HK.out | apply KeepBut.set_ | apply keep_drewN | apply keep_drew | apply keep_alloc) | exact HK.out)⟩
                      · rw [if_neg c25] at H
                        have c25b0 : ((wrap64 (x1001_1 + 1)) == (t191.size : Int)) = false := beq_eq_false_iff_ne.mpr c25
                        have c25b1 : ((wrap64 (x1001_1 + 1)) != (t191.size : Int)) = true := bne_iff_ne.mpr c25
                        obtain ⟨ji28, hji28⟩ : ∃ j_ : Int, (wrap64 (x1001_1 + 1)) = j_ := ⟨_, rfl⟩
                        replace H : (if 0 ≤ (ji28) then (if (ji28) < (t191.size : Int) then (if (bt t191 (ji28)) = 34 then (edits_scanner_quoted.j2 kj6 x3_1 (bt t191 (ji28)) (bt t191 (ji28)) ((bt t191 (ji28)) == 34) t191 ji28 false) else (edits_scanner_quoted.j2 kj6 x3_1 (bt t191 (ji28)) (bt t191 (ji28)) ((bt t191 (ji28)) == 92) t191 ji28 false)) else (none)) else (none)) = some (r1, r2, r3, r4) := by first | (rw [hji28] at H; exact H) | (simp only [hji28] at H ⊢; exact H)
                        (try rw [hji28] at c25b0)
                        (try rw [hji28] at c25b1)
                        have hji28w : (IntKind.i64.wrap (x1001_1 + 1)) = ji28 := (i64_w _).trans hji28
                        by_cases c29 : 0 ≤ (ji28)
                        · rw [if_pos c29] at H
                          have c29b0 : decide (0 ≤ (ji28)) = true := decide_eq_true c29
                          clear c29
                          by_cases c30 : (ji28) < (t191.size : Int)
                          · rw [if_pos c30] at H
                            have c30b0 : decide ((ji28) < (t191.size : Int)) = true := decide_eq_true c30
                            clear c30
                            have HC32 := Aside0.mk H
                            clear H
                            obtain ⟨HGz33, hgz33⟩ := HI0.out
                            have hcz33_0 := cellS65_0 HGz33
                            have hcz33_1 := cellS65_1 HGz33
                            have hcz33_2 := cellS65_2 HGz33
                            have hfz33_0 := blk_frozen HGz33 0
                            have hfz33_1 := blk_frozen HGz33 1
                            have hfz33_2 := blk_frozen HGz33 2
                            clear HGz33 hgz33
                            have p20 : 0 ≤ (x1001_1 : Int) := of_decide_eq_true (by first | (with_reducible assumption) | assumption)
                            have q20 : x1001_1 < (t191.size : Int) := of_decide_eq_true (by first | (with_reducible assumption) | assumption)
                            have hx20 := bt_at t191 x1001_1
                            replace p20 := eq_true p20
                            replace q20 := eq_true q20
                            have p31 : 0 ≤ ((ji28) : Int) := of_decide_eq_true (by first | (with_reducible assumption) | assumption)
                            have q31 : (ji28) < (t191.size : Int) := of_decide_eq_true (by first | (with_reducible assumption) | assumption)
                            have hx31 := bt_at t191 (ji28)
                            replace p31 := eq_true p31
                            replace q31 := eq_true q31
                            go_upto_if 90 with (fail)
                            repeat (go_quiet (fail); go_upto_if 90 with (fail))
                            go_cut [90] (fun v90 wc => ∃ (kq : Nat) (x90_31 : Bool), v90 = .bool x90_31 ∧ Aside0 (edits_scanner_quoted.j2 kq x3_1 (bt t191 (ji28)) (bt t191 (ji28)) x90_31 t191 ji28 false = some (r1, r2, r3, r4)) ∧ Aside0 (kq ≤ kj6) ∧ Aside0 (Kd.R (Kd.int .u8) 5 wc w.heap.size (fun _ => True) u3 x3_1) ∧ Aside0 (IsS65 w0 wc g t191 ji28 false) ∧ Aside0 (KeepBut w wc g none) ∧ Aside0 (Below w0.heap.size w0 wc))
                            case first =>
                              have H := HC32.out
                              clear HC32
                              by_cases c34 : (bt t191 (ji28)) = 34
                              · rw [if_pos c34] at H
                                have c34b0 : ((bt t191 (ji28)) == 34) = true := beq_iff_eq.mpr c34
                                have c34b1 : ((bt t191 (ji28)) != 34) = false := bne_eq_false_iff_eq.mpr c34
                                clear c34
                                (first | rw [c34b0] | (simp only [i64_w, i32_w]; rw [c34b0]) | skip)
                                have H' := Aside0.mk H
                                clear H
                                go_wp2
                                repeat (go_quiet (fail); try go_wp2)
                                go_meet
                                case rel => exact ⟨_, (((bt t191 (ji28)) == 34)), (by first | rfl | (simp; done) | (simp only [c34b0]; done) | (simp only [← hji28] <;> (first | rfl | (simp; done))) | (simp [*]; done)), H', ⟨by have := HK1.out; have := HJ6.out; first | omega | exact Nat.le_refl _⟩, ⟨by (with_reducible repeat (first | apply Kd.R_alloc | apply Kd.R_drewN | apply Kd.R_drew)); exact Kd.R_mono (Kd.R_far (p := ⟨g, 1, none⟩) (IsS65.apart HI0.out HO_3.out (by decide)) (fun _ hk => hk.2) (.int .i64 ji28)) (fun _ hk => trivial)⟩, ⟨by repeat (first | (with_reducible first | exact HI0.out | apply IsS65.alloc | apply IsS65.drewN | apply IsS65.drew | apply IsS65.set_0 | apply IsS65.set_1 | apply IsS65.set_2) | exact HI0.out)⟩, ⟨by repeat (first | (with_reducible first | exact HK.out | apply KeepBut.set_ | apply keep_drewN | apply keep_drew | apply keep_alloc) | exact HK.out)⟩, ⟨by repeat (first | (with_reducible first | exact HB.out | apply below_alloc | apply pw_below_drewN | apply below_drew1 | refine below_set ?_ (IsS65.ge HI0.out)) | exact HB.out)⟩⟩
                              · rw [if_neg c34] at H
                                have c34b0 : ((bt t191 (ji28)) == 34) = false := beq_eq_false_iff_ne.mpr c34
                                have c34b1 : ((bt t191 (ji28)) != 34) = true := bne_iff_ne.mpr c34
                                (first | rw [c34b0] | (simp only [i64_w, i32_w]; rw [c34b0]) | skip)
                                have H' := Aside0.mk H
                                clear H
                                go_wp2
                                repeat (go_quiet (fail); try go_wp2)
                                go_meet
                                case rel => exact ⟨_, (((bt t191 (ji28)) == 92)), (by first | rfl | (simp; done) | (simp only [← hji28] <;> (first | rfl | simp)) | (simp [*]; done)), H', ⟨by have := HK1.out; have := HJ6.out; first | omega | exact Nat.le_refl _⟩, ⟨by (with_reducible repeat (first | apply Kd.R_alloc | apply Kd.R_drewN | apply Kd.R_drew)); exact Kd.R_mono (Kd.R_far (p := ⟨g, 1, none⟩) (IsS65.apart HI0.out HO_3.out (by decide)) (fun _ hk => hk.2) (.int .i64 ji28)) (fun _ hk => trivial)⟩, ⟨by repeat (first | (with_reducible first | exact HI0.out | apply IsS65.alloc | apply IsS65.drewN | apply IsS65.drew | apply IsS65.set_0 | apply IsS65.set_1 | apply IsS65.set_2) | exact HI0.out)⟩, ⟨by repeat (first | (with_reducible first | exact HK.out | apply KeepBut.set_ | apply keep_drewN | apply keep_drew | apply keep_alloc) | exact HK.out)⟩, ⟨by repeat (first | (with_reducible first | exact HB.out | apply below_alloc | apply pw_below_drewN | apply below_drew1 | refine below_set ?_ (IsS65.ge HI0.out)) | exact HB.out)⟩⟩
                            case rest =>
                              clear HC32
                              try clear c1
                              try clear p1
                              try clear q1
                              try clear hx1
                              try clear hcv1
                              try clear c2
                              try clear p2
                              try clear q2
                              try clear hx2
                              try clear hcv2
                              try clear c3
                              try clear p3
                              try clear q3
                              try clear hx3
                              try clear c4
                              try clear p6
                              try clear hcv6
                              try clear c9
                              try clear c9b0
                              try clear c9b1
                              try clear c11
                              try clear c11b0
                              try clear c12
                              try clear c12b0
                              try clear p13
                              try clear q13
                              try clear hx13
                              try clear c15
                              try clear hcv17
                              try clear c18
                              try clear c18b0
                              try clear c19
                              try clear c19b0
                              try clear p20
                              try clear q20
                              try clear hx20
                              try clear c21
                              try clear c21b0
                              try clear c21b1
                              try clear hcv23
                              try clear c24
                              try clear c24b0
                              try clear c24b1
                              try clear c25
                              try clear c25b0
                              try clear c25b1
                              try clear hcv27
                              try clear c29
                              try clear c29b0
                              try clear c30
                              try clear c30b0
                              try clear c31
                              try clear p31
                              try clear q31
                              try clear hx31
                              try clear c34
                              try clear c34b0
                              try clear c34b1
                              try clear hcz10_0
                              try clear hcz10_1
                              try clear hcz10_2
                              try clear hcz14_0
                              try clear hcz14_1
                              try clear hcz14_2
                              try clear hcz16_0
                              try clear hcz16_1
                              try clear hcz16_2
                              try clear hcz22_0
                              try clear hcz22_1
                              try clear hcz22_2
                              try clear hcz26_0
                              try clear hcz26_1
                              try clear hcz26_2
                              try clear hcz33_0
                              try clear hcz33_1
                              try clear hcz33_2
                              try clear hcz5_0
                              try clear hcz5_1
                              try clear hcz5_2
                              try clear hcz8_0
                              try clear hcz8_1
                              try clear hcz8_2
                              try clear hfz10_0
                              try clear hfz10_1
                              try clear hfz10_2
                              try clear hfz14_0
                              try clear hfz14_1
                              try clear hfz14_2
                              try clear hfz16_0
                              try clear hfz16_1
                              try clear hfz16_2
                              try clear hfz22_0
                              try clear hfz22_1
                              try clear hfz22_2
                              try clear hfz26_0
                              try clear hfz26_1
                              try clear hfz26_2
                              try clear hfz33_0
                              try clear hfz33_1
                              try clear hfz33_2
                              try clear hfz5_0
                              try clear hfz5_1
                              try clear hfz5_2
                              try clear hfz8_0
                              try clear hfz8_1
                              try clear hfz8_2
                              try clear p1
                              try clear p13
                              try clear p2
                              try clear p20
                              try clear p31
                              try clear q1
                              try clear q13
                              try clear q20
                              try clear q31
                              obtain ⟨kq, x90_31, rfl, HA, HJ31, HO_3, HI0, HK, HB⟩ := hcut
                              cases kq with
                              | zero => exact absurd HA.out (by simp [edits_scanner_quoted.j2])
                              | succ kj31 =>
                                have H := HA.out
                                clear HA
                                simp only [edits_scanner_quoted.j2] at H
                                by_cases c35 : x90_31 = true
                                · subst c35
                                  have H1 : (if x3_1.length < 140737488355328 then (edits_scanner_quoted.l0 kj31 (x3_1 ++ [(bt t191 (ji28))]) t191 (wrap64 (ji28 + 1)) false) else (none)) = some (r1, r2, r3, r4) := by rw [if_pos rfl] at H; exact H
                                  clear H
                                  have H := H1
                                  clear H1
                                  by_cases c36 : x3_1.length < 140737488355328
                                  · rw [if_pos c36] at H
                                    have LMc36 := Aside0.mk c36
                                    clear c36
                                    obtain ⟨y194, hy194⟩ : ∃ y_ : List Int, y_ = (x3_1 ++ [(bt t191 (ji28))]) := ⟨_, rfl⟩
                                    replace H : (edits_scanner_quoted.l0 kj31 y194 t191 (wrap64 (ji28 + 1)) false) = some (r1, r2, r3, r4) := by first | (rw [hy194]; with_reducible exact H) | (have H2_ := (Option.bind_some _ _).symm.trans H; rw [hy194]; with_reducible exact H2_) | (have H2_ := (Option.bind_some _ _).symm.trans H; with_reducible exact H2_) | with_reducible exact H | (rw [hy194]; exact H) | exact H
                                    have Ny194 := Aside0.mk hy194
                                    clear hy194
                                    have H' := Aside0.mk H
                                    clear H
                                    obtain ⟨HGz37, hgz37⟩ := HI0.out
                                    have hcz37_0 := cellS65_0 HGz37
                                    have hcz37_1 := cellS65_1 HGz37
                                    have hcz37_2 := cellS65_2 HGz37
                                    have hfz37_0 := blk_frozen HGz37 0
                                    have hfz37_1 := blk_frozen HGz37 1
                                    have hfz37_2 := blk_frozen HGz37 2
                                    clear HGz37 hgz37
                                    go_wp2_with (first | ((with_reducible refine gate_builtin (b := .append) (xs := #[.tmp 102, .tmp 104]) rfl ?_); at_builtin; refine Kd.R_append (Kd.int .u8) w.heap.size rfl (.tmp 102) (.tmp 104) 59 5 (.int .u8 0) 1 rfl Tryd.underlying59 info5 rfl (by decide) (by omega) u3 x3_1 (bt t191 (ji28)) [.int .u8 (bt t191 (ji28))] (fun _ => True) (fun _ => False) rfl (by first | (go_simp; done) | (go_simp; rfl)) ?aP (fun _ hk => hk.elim) ?aF ?aO (Below.refl _ _) ?aS ?aL ?_; (case aP => exact rfl); (case aF => exact (fun _ _ => trivial)); (case aO => exact (by (with_reducible repeat (first | apply Kd.R_alloc | apply Kd.R_drewN | apply Kd.R_drew)); exact Kd.R_mono (Kd.R_far (p := ⟨g, 1, none⟩) (IsS65.apart HI0.out HO_3.out (by decide)) (fun _ hk => hk.2) (.int .i64 (wrap64 (ji28 + 1)))) (fun _ hk => trivial))); (case aS => exact (keep_size (w := w) (g := g) (row := none) (by repeat (first | (with_reducible first | exact HK.out | apply KeepBut.set_ | apply keep_drewN | apply keep_drew | apply keep_alloc) | exact HK.out)))); (case aL => have := LMc36.out; omega); intro v195 w38 ho hb hg hat; rw [← Ny194.out] at ho; have n0_ := Aside0.mk (IsS65.grown (by repeat (first | (with_reducible first | exact HI0.out | apply IsS65.alloc | apply IsS65.drewN | apply IsS65.drew | apply IsS65.set_0 | apply IsS65.set_1 | apply IsS65.set_2) | exact HI0.out)) hg (IsS65.own_ne HI0.out HO_3.out (by decide))); have n1_ := Aside0.mk (below_weaken (by repeat (first | (with_reducible first | exact HB.out | apply below_alloc | apply pw_below_drewN | apply below_drew1 | refine below_set ?_ (IsS65.ge HI0.out)) | exact HB.out)) HL.out hb); have n2_ := Aside0.mk (KeepBut.trans (by repeat (first | (with_reducible first | exact HK.out | apply KeepBut.set_ | apply keep_drewN | apply keep_drew | apply keep_alloc) | exact HK.out)) (KeepBut.of_grown hg g) (Kd.R_base2 HO_3.out)); have n3_ := Aside0.mk (ho); clear HI0; clear HB; clear HK; clear HO_3; have HI0 := n0_; have HB := n1_; have HK := n2_; have HO196 := n3_; clear n0_ n1_ n2_ n3_; clear ho hb hg hat))
                                    repeat (go_quiet (first | ((with_reducible refine gate_builtin (b := .append) (xs := #[.tmp 102, .tmp 104]) rfl ?_); at_builtin; refine Kd.R_append (Kd.int .u8) w.heap.size rfl (.tmp 102) (.tmp 104) 59 5 (.int .u8 0) 1 rfl Tryd.underlying59 info5 rfl (by decide) (by omega) u3 x3_1 (bt t191 (ji28)) [.int .u8 (bt t191 (ji28))] (fun _ => True) (fun _ => False) rfl (by first | (go_simp; done) | (go_simp; rfl)) ?aP (fun _ hk => hk.elim) ?aF ?aO (Below.refl _ _) ?aS ?aL ?_; (case aP => exact rfl); (case aF => exact (fun _ _ => trivial)); (case aO => exact (by (with_reducible repeat (first | apply Kd.R_alloc | apply Kd.R_drewN | apply Kd.R_drew)); exact Kd.R_mono (Kd.R_far (p := ⟨g, 1, none⟩) (IsS65.apart HI0.out HO_3.out (by decide)) (fun _ hk => hk.2) (.int .i64 (wrap64 (ji28 + 1)))) (fun _ hk => trivial))); (case aS => exact (keep_size (w := w) (g := g) (row := none) (by repeat (first | (with_reducible first | exact HK.out | apply KeepBut.set_ | apply keep_drewN | apply keep_drew | apply keep_alloc) | exact HK.out)))); (case aL => have := LMc36.out; omega); intro v195 w38 ho hb hg hat; rw [← Ny194.out] at ho; have n0_ := Aside0.mk (IsS65.grown (by repeat (first | (with_reducible first | exact HI0.out | apply IsS65.alloc | apply IsS65.drewN | apply IsS65.drew | apply IsS65.set_0 | apply IsS65.set_1 | apply IsS65.set_2) | exact HI0.out)) hg (IsS65.own_ne HI0.out HO_3.out (by decide))); have n1_ := Aside0.mk (below_weaken (by repeat (first | (with_reducible first | exact HB.out | apply below_alloc | apply pw_below_drewN | apply below_drew1 | refine below_set ?_ (IsS65.ge HI0.out)) | exact HB.out)) HL.out hb); have n2_ := Aside0.mk (KeepBut.trans (by repeat (first | (with_reducible first | exact HK.out | apply KeepBut.set_ | apply keep_drewN | apply keep_drew | apply keep_alloc) | exact HK.out)) (KeepBut.of_grown hg g) (Kd.R_base2 HO_3.out)); have n3_ := Aside0.mk (ho); clear HI0; clear HB; clear HK; clear HO_3; have HI0 := n0_; have HB := n1_; have HK := n2_; have HO196 := n3_; clear n0_ n1_ n2_ n3_; clear ho hb hg hat)); try go_wp2_with (first | ((with_reducible refine gate_builtin (b := .append) (xs := #[.tmp 102, .tmp 104]) rfl ?_); at_builtin; refine Kd.R_append (Kd.int .u8) w.heap.size rfl (.tmp 102) (.tmp 104) 59 5 (.int .u8 0) 1 rfl Tryd.underlying59 info5 rfl (by decide) (by omega) u3 x3_1 (bt t191 (ji28)) [.int .u8 (bt t191 (ji28))] (fun _ => True) (fun _ => False) rfl (by first | (go_simp; done) | (go_simp; rfl)) ?aP (fun _ hk => hk.elim) ?aF ?aO (Below.refl _ _) ?aS ?aL ?_; (case aP => exact rfl); (case aF => exact (fun _ _ => trivial)); (case aO => exact (by (with_reducible repeat (first | apply Kd.R_alloc | apply Kd.R_drewN | apply Kd.R_drew)); exact Kd.R_mono (Kd.R_far (p := ⟨g, 1, none⟩) (IsS65.apart HI0.out HO_3.out (by decide)) (fun _ hk => hk.2) (.int .i64 (wrap64 (ji28 + 1)))) (fun _ hk => trivial))); (case aS => exact (keep_size (w := w) (g := g) (row := none) (by repeat (first | (with_reducible first | exact HK.out | apply KeepBut.set_ | apply keep_drewN | apply keep_drew | apply keep_alloc) | exact HK.out)))); (case aL => have := LMc36.out; omega); intro v195 w38 ho hb hg hat; rw [← Ny194.out] at ho; have n0_ := Aside0.mk (IsS65.grown (by repeat (first | (with_reducible first | exact HI0.out | apply IsS65.alloc | apply IsS65.drewN | apply IsS65.drew | apply IsS65.set_0 | apply IsS65.set_1 | apply IsS65.set_2) | exact HI0.out)) hg (IsS65.own_ne HI0.out HO_3.out (by decide))); have n1_ := Aside0.mk (below_weaken (by repeat (first | (with_reducible first | exact HB.out | apply below_alloc | apply pw_below_drewN | apply below_drew1 | refine below_set ?_ (IsS65.ge HI0.out)) | exact HB.out)) HL.out hb); have n2_ := Aside0.mk (KeepBut.trans (by repeat (first | (with_reducible first | exact HK.out | apply KeepBut.set_ | apply keep_drewN | apply keep_drew | apply keep_alloc) | exact HK.out)) (KeepBut.of_grown hg g) (Kd.R_base2 HO_3.out)); have n3_ := Aside0.mk (ho); clear HI0; clear HB; clear HK; clear HO_3; have HI0 := n0_; have HB := n1_; have HK := n2_; have HO196 := n3_; clear n0_ n1_ n2_ n3_; clear ho hb hg hat)))
                                    go_roundg kj31
                                    case measure => have := HK1.out; have := HJ6.out; have := HJ31.out; omega
                                    case rel => exact ⟨(y194), (wrap64 (ji28 + 1)), (false), H', ⟨by have := HK1.out; have := HJ6.out; have := HJ31.out; omega⟩, ⟨by (with_reducible repeat (first | apply Kd.R_alloc | apply Kd.R_drewN | apply Kd.R_drew)); exact HO196.out⟩, ⟨by repeat (first | (with_reducible first | exact HI0.out | apply IsS65.alloc | apply IsS65.drewN | apply IsS65.drew | apply IsS65.set_0 | apply IsS65.set_1 | apply IsS65.set_2) | exact HI0.out)⟩, ⟨by repeat (first | (with_reducible first | exact HK.out | apply KeepBut.set_ | apply keep_drewN | apply keep_drew | apply keep_alloc) | exact HK.out)⟩, ⟨by repeat (first | (with_reducible first | exact HB.out | apply below_alloc | apply pw_below_drewN | apply below_drew1 | refine below_set ?_ (IsS65.ge HI0.out)) | exact HB.out)⟩⟩
                                  · rw [if_neg c36] at H
                                    exact absurd H (by simp)
                                · replace c35 := Bool.eq_false_iff.mpr c35
                                  subst c35
                                  have H1 : (if (bt t191 (ji28)) = 110 then (if x3_1.length < 140737488355328 then (edits_scanner_quoted.l0 kj31 (x3_1 ++ [10]) t191 (wrap64 (ji28 + 1)) false) else (none)) else (edits_scanner_quoted.l0 kj31 x3_1 t191 ji28 true)) = some (r1, r2, r3, r4) := by rw [if_neg (show ¬ (false = true) by decide)] at H; exact H
                                  clear H
                                  have H := H1
                                  clear H1
                                  by_cases c39 : (bt t191 (ji28)) = 110
                                  · rw [if_pos c39] at H
                                    have c39b0 : ((bt t191 (ji28)) == 110) = true := beq_iff_eq.mpr c39
                                    have c39b1 : ((bt t191 (ji28)) != 110) = false := bne_eq_false_iff_eq.mpr c39
                                    clear c39
                                    by_cases c40 : x3_1.length < 140737488355328
                                    · rw [if_pos c40] at H
                                      have LMc40 := Aside0.mk c40
                                      clear c40
                                      obtain ⟨y197, hy197⟩ : ∃ y_ : List Int, y_ = (x3_1 ++ [10]) := ⟨_, rfl⟩
                                      replace H : (edits_scanner_quoted.l0 kj31 y197 t191 (wrap64 (ji28 + 1)) false) = some (r1, r2, r3, r4) := by first | (rw [hy197]; with_reducible exact H) | (have H2_ := (Option.bind_some _ _).symm.trans H; rw [hy197]; with_reducible exact H2_) | (have H2_ := (Option.bind_some _ _).symm.trans H; with_reducible exact H2_) | with_reducible exact H | (rw [hy197]; exact H) | exact H
                                      have Ny197 := Aside0.mk hy197
                                      clear hy197
                                      have H' := Aside0.mk H
                                      clear H
                                      obtain ⟨HGz41, hgz41⟩ := HI0.out
                                      have hcz41_0 := cellS65_0 HGz41
                                      have hcz41_1 := cellS65_1 HGz41
                                      have hcz41_2 := cellS65_2 HGz41
                                      have hfz41_0 := blk_frozen HGz41 0
                                      have hfz41_1 := blk_frozen HGz41 1
                                      have hfz41_2 := blk_frozen HGz41 2
                                      clear HGz41 hgz41
                                      go_wp2_with (first | ((with_reducible refine gate_builtin (b := .append) (xs := #[.tmp 102, .tmp 104]) rfl ?_); at_builtin; refine Kd.R_append (Kd.int .u8) w.heap.size rfl (.tmp 102) (.tmp 104) 59 5 (.int .u8 0) 1 rfl Tryd.underlying59 info5 rfl (by decide) (by omega) u3 x3_1 10 [.int .u8 10] (fun _ => True) (fun _ => False) rfl (by first | (go_simp; done) | (go_simp; rfl)) ?aP (fun _ hk => hk.elim) ?aF ?aO (Below.refl _ _) ?aS ?aL ?_; (case aP => exact rfl); (case aF => exact (fun _ _ => trivial)); (case aO => exact (by (with_reducible repeat (first | apply Kd.R_alloc | apply Kd.R_drewN | apply Kd.R_drew)); exact Kd.R_mono (Kd.R_far (p := ⟨g, 1, none⟩) (IsS65.apart HI0.out HO_3.out (by decide)) (fun _ hk => hk.2) (.int .i64 (wrap64 (ji28 + 1)))) (fun _ hk => trivial))); (case aS => exact (keep_size (w := w) (g := g) (row := none) (by repeat (first | (with_reducible first | exact HK.out | apply KeepBut.set_ | apply keep_drewN | apply keep_drew | apply keep_alloc) | exact HK.out)))); (case aL => have := LMc40.out; omega); intro v198 w42 ho hb hg hat; rw [← Ny197.out] at ho; have n0_ := Aside0.mk (IsS65.grown (by repeat (first | (with_reducible first | exact HI0.out | apply IsS65.alloc | apply IsS65.drewN | apply IsS65.drew | apply IsS65.set_0 | apply IsS65.set_1 | apply IsS65.set_2) | exact HI0.out)) hg (IsS65.own_ne HI0.out HO_3.out (by decide))); have n1_ := Aside0.mk (below_weaken (by repeat (first | (with_reducible first | exact HB.out | apply below_alloc | apply pw_below_drewN | apply below_drew1 | refine below_set ?_ (IsS65.ge HI0.out)) | exact HB.out)) HL.out hb); have n2_ := Aside0.mk (KeepBut.trans (by repeat (first | (with_reducible first | exact HK.out | apply KeepBut.set_ | apply keep_drewN | apply keep_drew | apply keep_alloc) | exact HK.out)) (KeepBut.of_grown hg g) (Kd.R_base2 HO_3.out)); have n3_ := Aside0.mk (ho); clear HI0; clear HB; clear HK; clear HO_3; have HI0 := n0_; have HB := n1_; have HK := n2_; have HO199 := n3_; clear n0_ n1_ n2_ n3_; clear ho hb hg hat))
                                      repeat (go_quiet (first | ((with_reducible refine gate_builtin (b := .append) (xs := #[.tmp 102, .tmp 104]) rfl ?_); at_builtin; refine Kd.R_append (Kd.int .u8) w.heap.size rfl (.tmp 102) (.tmp 104) 59 5 (.int .u8 0) 1 rfl Tryd.underlying59 info5 rfl (by decide) (by omega) u3 x3_1 10 [.int .u8 10] (fun _ => True) (fun _ => False) rfl (by first | (go_simp; done) | (go_simp; rfl)) ?aP (fun _ hk => hk.elim) ?aF ?aO (Below.refl _ _) ?aS ?aL ?_; (case aP => exact rfl); (case aF => exact (fun _ _ => trivial)); (case aO => exact (by (with_reducible repeat (first | apply Kd.R_alloc | apply Kd.R_drewN | apply Kd.R_drew)); exact Kd.R_mono (Kd.R_far (p := ⟨g, 1, none⟩) (IsS65.apart HI0.out HO_3.out (by decide)) (fun _ hk => hk.2) (.int .i64 (wrap64 (ji28 + 1)))) (fun _ hk => trivial))); (case aS => exact (keep_size (w := w) (g := g) (row := none) (by repeat (first | (with_reducible first | exact HK.out | apply KeepBut.set_ | apply keep_drewN | apply keep_drew | apply keep_alloc) | exact HK.out)))); (case aL => have := LMc40.out; omega); intro v198 w42 ho hb hg hat; rw [← Ny197.out] at ho; have n0_ := Aside0.mk (IsS65.grown (by repeat (first | (with_reducible first | exact HI0.out | apply IsS65.alloc | apply IsS65.drewN | apply IsS65.drew | apply IsS65.set_0 | apply IsS65.set_1 | apply IsS65.set_2) | exact HI0.out)) hg (IsS65.own_ne HI0.out HO_3.out (by decide))); have n1_ := Aside0.mk (below_weaken (by repeat (first | (with_reducible first | exact HB.out | apply below_alloc | apply pw_below_drewN | apply below_drew1 | refine below_set ?_ (IsS65.ge HI0.out)) | exact HB.out)) HL.out hb); have n2_ := Aside0.mk (KeepBut.trans (by repeat (first | (with_reducible first | exact HK.out | apply KeepBut.set_ | apply keep_drewN | apply keep_drew | apply keep_alloc) | exact HK.out)) (KeepBut.of_grown hg g) (Kd.R_base2 HO_3.out)); have n3_ := Aside0.mk (ho); clear HI0; clear HB; clear HK; clear HO_3; have HI0 := n0_; have HB := n1_; have HK := n2_; have HO199 := n3_; clear n0_ n1_ n2_ n3_; clear ho hb hg hat)); try go_wp2_with (first | ((with_reducible refine gate_builtin (b := .append) (xs := #[.tmp 102, .tmp 104]) rfl ?_); at_builtin; refine Kd.R_append (Kd.int .u8) w.heap.size rfl (.tmp 102) (.tmp 104) 59 5 (.int .u8 0) 1 rfl Tryd.underlying59 info5 rfl (by decide) (by omega) u3 x3_1 10 [.int .u8 10] (fun _ => True) (fun _ => False) rfl (by first | (go_simp; done) | (go_simp; rfl)) ?aP (fun _ hk => hk.elim) ?aF ?aO (Below.refl _ _) ?aS ?aL ?_; (case aP => exact rfl); (case aF => exact (fun _ _ => trivial)); (case aO => exact (by (with_reducible repeat (first | apply Kd.R_alloc | apply Kd.R_drewN | apply Kd.R_drew)); exact Kd.R_mono (Kd.R_far (p := ⟨g, 1, none⟩) (IsS65.apart HI0.out HO_3.out (by decide)) (fun _ hk => hk.2) (.int .i64 (wrap64 (ji28 + 1)))) (fun _ hk => trivial))); (case aS => exact (keep_size (w := w) (g := g) (row := none) (by repeat (first | (with_reducible first | exact HK.out | apply KeepBut.set_ | apply keep_drewN | apply keep_drew | apply keep_alloc) | exact HK.out)))); (case aL => have := LMc40.out; omega); intro v198 w42 ho hb hg hat; rw [← Ny197.out] at ho; have n0_ := Aside0.mk (IsS65.grown (by repeat (first | (with_reducible first | exact HI0.out | apply IsS65.alloc | apply IsS65.drewN | apply IsS65.drew | apply IsS65.set_0 | apply IsS65.set_1 | apply IsS65.set_2) | exact HI0.out)) hg (IsS65.own_ne HI0.out HO_3.out (by decide))); have n1_ := Aside0.mk (below_weaken (by repeat (first | (with_reducible first | exact HB.out | apply below_alloc | apply pw_below_drewN | apply below_drew1 | refine below_set ?_ (IsS65.ge HI0.out)) | exact HB.out)) HL.out hb); have n2_ := Aside0.mk (KeepBut.trans (by repeat (first | (with_reducible first | exact HK.out | apply KeepBut.set_ | apply keep_drewN | apply keep_drew | apply keep_alloc) | exact HK.out)) (KeepBut.of_grown hg g) (Kd.R_base2 HO_3.out)); have n3_ := Aside0.mk (ho); clear HI0; clear HB; clear HK; clear HO_3; have HI0 := n0_; have HB := n1_; have HK := n2_; have HO199 := n3_; clear n0_ n1_ n2_ n3_; clear ho hb hg hat)))
                                      go_roundg kj31
                                      case measure => have := HK1.out; have := HJ6.out; have := HJ31.out; omega
                                      case rel => exact ⟨(y197), (wrap64 (ji28 + 1)), (false), H', ⟨by have := HK1.out; have := HJ6.out; have := HJ31.out; omega⟩, ⟨by (with_reducible repeat (first | apply Kd.R_alloc | apply Kd.R_drewN | apply Kd.R_drew)); exact HO199.out⟩, ⟨by repeat (first | (with_reducible first | exact HI0.out | apply IsS65.alloc | apply IsS65.drewN | apply IsS65.drew | apply IsS65.set_0 | apply IsS65.set_1 | apply IsS65.set_2) | exact HI0.out)⟩, ⟨by repeat (first | (with_reducible first | exact HK.out | apply KeepBut.set_ | apply keep_drewN | apply keep_drew | apply keep_alloc) | exact HK.out)⟩, ⟨by repeat (first | (with_reducible first | exact HB.out | apply below_alloc | apply pw_below_drewN | apply below_drew1 | refine below_set ?_ (IsS65.ge HI0.out)) | exact HB.out)⟩⟩
                                    · rw [if_neg c40] at H
                                      exact absurd H (by simp)
                                  · rw [if_neg c39] at H
                                    have c39b0 : ((bt t191 (ji28)) == 110) = false := beq_eq_false_iff_ne.mpr c39
                                    have c39b1 : ((bt t191 (ji28)) != 110) = true := bne_iff_ne.mpr c39
                                    have H' := Aside0.mk H
                                    clear H
                                    obtain ⟨HGz43, hgz43⟩ := HI0.out
                                    have hcz43_0 := cellS65_0 HGz43
                                    have hcz43_1 := cellS65_1 HGz43
                                    have hcz43_2 := cellS65_2 HGz43
                                    have hfz43_0 := blk_frozen HGz43 0
                                    have hfz43_1 := blk_frozen HGz43 1
                                    have hfz43_2 := blk_frozen HGz43 2
                                    clear HGz43 hgz43
                                    go_wp2
                                    repeat (go_quiet (fail); try go_wp2)
                                    go_roundg kj31
                                    case measure => have := HK1.out; have := HJ6.out; have := HJ31.out; omega
                                    case rel => exact ⟨(x3_1), (ji28), (true), H', ⟨by have := HK1.out; have := HJ6.out; have := HJ31.out; omega⟩, ⟨by (with_reducible repeat (first | apply Kd.R_alloc | apply Kd.R_drewN | apply Kd.R_drew)); exact Kd.R_mono (Kd.R_far (p := ⟨g, 2, none⟩) (IsS65.apart HI0.out HO_3.out (by decide)) (fun _ hk => hk.2) (.bool true)) (fun _ hk => trivial)⟩, ⟨by repeat (first | (with_reducible first | exact HI0.out | apply IsS65.alloc | apply IsS65.drewN | apply IsS65.drew | apply IsS65.set_0 | apply IsS65.set_1 | apply IsS65.set_2) | exact HI0.out)⟩, ⟨by repeat (first | (with_reducible first | exact HK.out | apply KeepBut.set_ | apply keep_drewN | apply keep_drew | apply keep_alloc) | exact HK.out)⟩, ⟨by repeat (first | (with_reducible first | exact HB.out | apply below_alloc | apply pw_below_drewN | apply below_drew1 | refine below_set ?_ (IsS65.ge HI0.out)) | exact HB.out)⟩⟩
                          · rw [if_neg c30] at H
                            exact absurd H (by simp)
                        · rw [if_neg c29] at H
                          exact absurd H (by simp)
                    · rw [if_neg c24] at H
                      have c24b0 : ((bt t191 x1001_1) == 92) = false := beq_eq_false_iff_ne.mpr c24
                      have c24b1 : ((bt t191 x1001_1) != 92) = true := bne_iff_ne.mpr c24
                      by_cases c44 : x3_1.length < 140737488355328
                      · rw [if_pos c44] at H
                        have LMc44 := Aside0.mk c44
                        clear c44
                        obtain ⟨y200, hy200⟩ : ∃ y_ : List Int, y_ = (x3_1 ++ [bt t191 x1001_1]) := ⟨_, rfl⟩
                        replace H : (edits_scanner_quoted.l0 kj6 y200 t191 (wrap64 (x1001_1 + 1)) false) = some (r1, r2, r3, r4) := by first | (rw [hy200]; with_reducible exact H) | (have H2_ := (Option.bind_some _ _).symm.trans H; rw [hy200]; with_reducible exact H2_) | (have H2_ := (Option.bind_some _ _).symm.trans H; with_reducible exact H2_) | with_reducible exact H | (rw [hy200]; exact H) | exact H
                        have Ny200 := Aside0.mk hy200
                        clear hy200
                        have H' := Aside0.mk H
                        clear H
                        obtain ⟨HGz45, hgz45⟩ := HI0.out
                        have hcz45_0 := cellS65_0 HGz45
                        have hcz45_1 := cellS65_1 HGz45
                        have hcz45_2 := cellS65_2 HGz45
                        have hfz45_0 := blk_frozen HGz45 0
                        have hfz45_1 := blk_frozen HGz45 1
                        have hfz45_2 := blk_frozen HGz45 2
                        clear HGz45 hgz45
                        have p20 : 0 ≤ (x1001_1 : Int) := of_decide_eq_true (by first | (with_reducible assumption) | assumption)
                        have q20 : x1001_1 < (t191.size : Int) := of_decide_eq_true (by first | (with_reducible assumption) | assumption)
                        have hx20 := bt_at t191 x1001_1
                        replace p20 := eq_true p20
                        replace q20 := eq_true q20
                        go_wp2_with (first | ((with_reducible refine gate_builtin (b := .append) (xs := #[.tmp 102, .tmp 104]) rfl ?_); at_builtin; refine Kd.R_append (Kd.int .u8) w.heap.size rfl (.tmp 102) (.tmp 104) 59 5 (.int .u8 0) 1 rfl Tryd.underlying59 info5 rfl (by decide) (by omega) u3 x3_1 (bt t191 x1001_1) [.int .u8 (bt t191 x1001_1)] (fun _ => True) (fun _ => False) rfl (by first | (go_simp; done) | (go_simp; rfl)) ?aP (fun _ hk => hk.elim) ?aF ?aO (Below.refl _ _) ?aS ?aL ?_; (case aP => exact rfl); (case aF => exact (fun _ _ => trivial)); (case aO => exact (by (with_reducible repeat (first | apply Kd.R_alloc | apply Kd.R_drewN | apply Kd.R_drew)); exact Kd.R_mono (Kd.R_far (p := ⟨g, 1, none⟩) (IsS65.apart HI0.out HO_3.out (by decide)) (fun _ hk => hk.2) (.int .i64 (wrap64 (x1001_1 + 1)))) (fun _ hk => trivial))); (case aS => exact (keep_size (w := w) (g := g) (row := none) (by repeat (first | (with_reducible first | exact HK.out | apply KeepBut.set_ | apply keep_drewN | apply keep_drew | apply keep_alloc) | exact HK.out)))); (case aL => have := LMc44.out; omega); intro v201 w46 ho hb hg hat; rw [← Ny200.out] at ho; have n0_ := Aside0.mk (IsS65.grown (by repeat (first | (with_reducible first | exact HI0.out | apply IsS65.alloc | apply IsS65.drewN | apply IsS65.drew | apply IsS65.set_0 | apply IsS65.set_1 | apply IsS65.set_2) | exact HI0.out)) hg (IsS65.own_ne HI0.out HO_3.out (by decide))); have n1_ := Aside0.mk (below_weaken (by repeat (first | (with_reducible first | exact HB.out | apply below_alloc | apply pw_below_drewN | apply below_drew1 | refine below_set ?_ (IsS65.ge HI0.out)) | exact HB.out)) HL.out hb); have n2_ := Aside0.mk (KeepBut.trans (by repeat (first | (with_reducible first | exact HK.out | apply KeepBut.set_ | apply keep_drewN | apply keep_drew | apply keep_alloc) | exact HK.out)) (KeepBut.of_grown hg g) (Kd.R_base2 HO_3.out)); have n3_ := Aside0.mk (ho); clear HI0; clear HB; clear HK; clear HO_3; have HI0 := n0_; have HB := n1_; have HK := n2_; have HO202 := n3_; clear n0_ n1_ n2_ n3_; clear ho hb hg hat))
                        repeat (go_quiet (first | ((with_reducible refine gate_builtin (b := .append) (xs := #[.tmp 102, .tmp 104]) rfl ?_); at_builtin; refine Kd.R_append (Kd.int .u8) w.heap.size rfl (.tmp 102) (.tmp 104) 59 5 (.int .u8 0) 1 rfl Tryd.underlying59 info5 rfl (by decide) (by omega) u3 x3_1 (bt t191 x1001_1) [.int .u8 (bt t191 x1001_1)] (fun _ => True) (fun _ => False) rfl (by first | (go_simp; done) | (go_simp; rfl)) ?aP (fun _ hk => hk.elim) ?aF ?aO (Below.refl _ _) ?aS ?aL ?_; (case aP => exact rfl); (case aF => exact (fun _ _ => trivial)); (case aO => exact (by (with_reducible repeat (first | apply Kd.R_alloc | apply Kd.R_drewN | apply Kd.R_drew)); exact Kd.R_mono (Kd.R_far (p := ⟨g, 1, none⟩) (IsS65.apart HI0.out HO_3.out (by decide)) (fun _ hk => hk.2) (.int .i64 (wrap64 (x1001_1 + 1)))) (fun _ hk => trivial))); (case aS => exact (keep_size (w := w) (g := g) (row := none) (by repeat (first | (with_reducible first | exact HK.out | apply KeepBut.set_ | apply keep_drewN | apply keep_drew | apply keep_alloc) | exact HK.out)))); (case aL => have := LMc44.out; omega); intro v201 w46 ho hb hg hat; rw [← Ny200.out] at ho; have n0_ := Aside0.mk (IsS65.grown (by repeat (first | (with_reducible first | exact HI0.out | apply IsS65.alloc | apply IsS65.drewN | apply IsS65.drew | apply IsS65.set_0 | apply IsS65.set_1 | apply IsS65.set_2) | exact HI0.out)) hg (IsS65.own_ne HI0.out HO_3.out (by decide))); have n1_ := Aside0.mk (below_weaken (by repeat (first | (with_reducible first | exact HB.out | apply below_alloc | apply pw_below_drewN | apply below_drew1 | refine below_set ?_ (IsS65.ge HI0.out)) | exact HB.out)) HL.out hb); have n2_ := Aside0.mk (KeepBut.trans (by repeat (first | (with_reducible first | exact HK.out | apply KeepBut.set_ | apply keep_drewN | apply keep_drew | apply keep_alloc) | exact HK.out)) (KeepBut.of_grown hg g) (Kd.R_base2 HO_3.out)); have n3_ := Aside0.mk (ho); clear HI0; clear HB; clear HK; clear HO_3; have HI0 := n0_; have HB := n1_; have HK := n2_; have HO202 := n3_; clear n0_ n1_ n2_ n3_; clear ho hb hg hat)); try go_wp2_with (first | ((with_reducible refine gate_builtin (b := .append) (xs := #[.tmp 102, .tmp 104]) rfl ?_); at_builtin; refine Kd.R_append (Kd.int .u8) w.heap.size rfl (.tmp 102) (.tmp 104) 59 5 (.int .u8 0) 1 rfl Tryd.underlying59 info5 rfl (by decide) (by omega) u3 x3_1 (bt t191 x1001_1) [.int .u8 (bt t191 x1001_1)] (fun _ => True) (fun _ => False) rfl (by first | (go_simp; done) | (go_simp; rfl)) ?aP (fun _ hk => hk.elim) ?aF ?aO (Below.refl _ _) ?aS ?aL ?_; (case aP => exact rfl); (case aF => exact (fun _ _ => trivial)); (case aO => exact (by (with_reducible repeat (first | apply Kd.R_alloc | apply Kd.R_drewN | apply Kd.R_drew)); exact Kd.R_mono (Kd.R_far (p := ⟨g, 1, none⟩) (IsS65.apart HI0.out HO_3.out (by decide)) (fun _ hk => hk.2) (.int .i64 (wrap64 (x1001_1 + 1)))) (fun _ hk => trivial))); (case aS => exact (keep_size (w := w) (g := g) (row := none) (by repeat (first | (with_reducible first | exact HK.out | apply KeepBut.set_ | apply keep_drewN | apply keep_drew | apply keep_alloc) | exact HK.out)))); (case aL => have := LMc44.out; omega); intro v201 w46 ho hb hg hat; rw [← Ny200.out] at ho; have n0_ := Aside0.mk (IsS65.grown (by repeat (first | (with_reducible first | exact HI0.out | apply IsS65.alloc | apply IsS65.drewN | apply IsS65.drew | apply IsS65.set_0 | apply IsS65.set_1 | apply IsS65.set_2) | exact HI0.out)) hg (IsS65.own_ne HI0.out HO_3.out (by decide))); have n1_ := Aside0.mk (below_weaken (by repeat (first | (with_reducible first | exact HB.out | apply below_alloc | apply pw_below_drewN | apply below_drew1 | refine below_set ?_ (IsS65.ge HI0.out)) | exact HB.out)) HL.out hb); have n2_ := Aside0.mk (KeepBut.trans (by repeat (first | (with_reducible first | exact HK.out | apply KeepBut.set_ | apply keep_drewN | apply keep_drew | apply keep_alloc) | exact HK.out)) (KeepBut.of_grown hg g) (Kd.R_base2 HO_3.out)); have n3_ := Aside0.mk (ho); clear HI0; clear HB; clear HK; clear HO_3; have HI0 := n0_; have HB := n1_; have HK := n2_; have HO202 := n3_; clear n0_ n1_ n2_ n3_; clear ho hb hg hat)))
                        go_roundg kj6
                        case measure => have := HK1.out; have := HJ6.out; omega
                        case rel => exact ⟨(y200), (wrap64 (x1001_1 + 1)), (false), H', ⟨by have := HK1.out; have := HJ6.out; omega⟩, ⟨by (with_reducible repeat (first | apply Kd.R_alloc | apply Kd.R_drewN | apply Kd.R_drew)); exact HO202.out⟩, ⟨by repeat (first | (with_reducible first | exact HI0.out | apply IsS65.alloc | apply IsS65.drewN | apply IsS65.drew | apply IsS65.set_0 | apply IsS65.set_1 | apply IsS65.set_2) | exact HI0.out)⟩, ⟨by repeat (first | (with_reducible first | exact HK.out | apply KeepBut.set_ | apply keep_drewN | apply keep_drew | apply keep_alloc) | exact HK.out)⟩, ⟨by repeat (first | (with_reducible first | exact HB.out | apply below_alloc | apply pw_below_drewN | apply below_drew1 | refine below_set ?_ (IsS65.ge HI0.out)) | exact HB.out)⟩⟩
                      · rw [if_neg c44] at H
                        exact absurd H (by simp)
                · rw [if_neg c19] at H
                  exact absurd H (by simp)
              · rw [if_neg c18] at H
                exact absurd H (by simp)

end Go.Proofs.YtaihajmdngoeiaaDoor.F

namespace Go.Proofs.YtaihajmdngoeiaaDoor.Q
open Go.RowKit Go.Proofs.YtaihajmdngoeiaaDoorW.PrintWords Go.Proofs.YtaihajmdngoeiaaDoorW.PrintLast Go.Proofs.YtaihajmdngoeiaaDoorW.PrintMore
open Go.Proofs.YtaihajmdngoeiaaDoor.F
set_option linter.unusedVariables false
set_option linter.unusedSimpArgs false

/-- Where the scanner stands behind a reader: its place, and whether a fault was met. -/
def after {α : Type} (s : ByteArray) : Res α → Int × Bool
  | .ok _ r => (plc s r, false)
  | .bad r => (plc s r, true)
theorem byte_is (s : ByteArray) (hs : s.size ≤ 140737488351232) (p : Nat) (h : p ≤ s.size) (c : Int) : edits_scanner_byte.f s (p : Int) false c = some (s, after s (byteL c ((bytesOf s).drop p))) := by
  by_cases e : p = s.size
  · have A1 : ((p : Int) = (s.size : Int)) = True := eq_true (by omega)
    rw [List.drop_eq_nil_of_le (by rw [bytesOf_length]; omega)]
    simp only [edits_scanner_byte.f, Bool.false_eq_true, if_false, if_true, A1, byteL, after, plc]
    congr 3
    simp [e]
  · have A1 : ((p : Int) = (s.size : Int)) = False := eq_false (by omega)
    have A2 : ((0 : Int) ≤ (p : Int)) = True := eq_true (by omega)
    have A3 : ((p : Int) < (s.size : Int)) = True := eq_true (by omega)
    have hw : wrap64 ((p : Int) + 1) = ((p + 1 : Nat) : Int) := by rw [w64] <;> omega
    have p1 := plc_dr s p h
    have p2 := plc_dr s (p + 1) (by omega)
    rw [dr_cons s p (by omega)] at p1 ⊢
    simp only [edits_scanner_byte.f, Bool.false_eq_true, if_false, if_true, A1, A2, A3, hw, byteL]
    split
    · simp only [after, p2]
    · simp only [after, p1]
theorem byte_bad (s : ByteArray) (p c : Int) : edits_scanner_byte.f s p true c = some (s, p, true) := by
  simp [edits_scanner_byte.f]

/-- The scanner's state within a number. -/
def nst : NS → Int → Bool → Int → Prop
  | .start, n, mi, dg => n = 0 ∧ mi = false ∧ dg = 0
  | .minus, n, mi, dg => n = 0 ∧ mi = true ∧ dg = 0
  | .num neg m, n, mi, dg => n = sgn neg m ∧ mi = neg ∧ 1 ≤ dg ∧ 0 ≤ m ∧ m ≤ lim neg ∧ (m = 0 ↔ dg = 1 ∧ m = 0) ∧ (neg = true → 0 < m)
theorem tdiv_lo2 {d : Int} (h : 0 ≤ d ∧ d ≤ 9) : wrap64 (Int.tdiv (wrap64 ((-9223372036854775808) + d)) 10) = -((9223372036854775808 - d) / 10) := by
  have h1 : wrap64 ((-9223372036854775808) + d) = -(9223372036854775808 - d) := by unfold wrap64; omega
  rw [h1, Int.neg_tdiv, Int.tdiv_eq_ediv, if_pos (Or.inl (by omega))]
  unfold wrap64
  omega
theorem tdiv_hi2 {d : Int} (h : 0 ≤ d ∧ d ≤ 9) : wrap64 (Int.tdiv (wrap64 (9223372036854775807 - d)) 10) = (9223372036854775807 - d) / 10 := tdiv_hi (by omega)
theorem num_loop (s : ByteArray) (hs : s.size ≤ 140737488351232) (e : Int) (he : ¬(48 ≤ e ∧ e ≤ 57) ∧ e ≠ 45) (d : Nat) : ∀ (p : Nat) (st : NS) (n : Int) (mi : Bool) (dg : Int), p ≤ s.size → s.size - p = d → nst st n mi dg → dg ≤ p → (st = .start → ∀ h : p < s.size, bt s (p : Int) ≠ 45) →
    ∃ v, Ev (fun k => edits_scanner_number.l0 k e n mi dg s (p : Int) false) (v, s, after s (takeL e st ((bytesOf s).drop p))) ∧ ∀ u r, takeL e st ((bytesOf s).drop p) = .ok u r → v = u := by
  induction d with
  | zero =>
    intro p st n mi dg h1 h2 h3 h4 h5
    have A1 : ((p : Int) < (s.size : Int)) = False := eq_false (by omega)
    have hb := byte_is s hs p h1 e
    have hbb := byte_bad s (p : Int) e
    have hp : p = s.size := by omega
    rw [List.drop_eq_nil_of_le (by rw [bytesOf_length]; omega)] at hb ⊢
    refine ⟨n, ⟨2, fun k hk => ?_⟩, fun u r h => by cases st <;> simp [takeL] at h⟩
    obtain ⟨k, rfl⟩ : ∃ m, k = m + 2 := ⟨k - 2, by omega⟩
    simp only [edits_scanner_number.l0, edits_scanner_number.j3, Bool.false_eq_true, if_false, A1, decide_false, hb, hbb, Option.bind_some, byteL, after]
    have : plc s [] = (p : Int) := by unfold plc; simp [hp]
    cases st <;> simp only [takeL, after, this] <;> split <;> rfl
  | succ d ih =>
    intro p st n mi dg h1 h2 h3 h4 h5
    have hlt : p < s.size := by omega
    have h5' : st = .start → bt s (p : Int) ≠ 45 := fun h => h5 h hlt
    clear h5
    have A1 : ((p : Int) < (s.size : Int)) = True := eq_true (by omega)
    have A2 : ((0 : Int) ≤ (p : Int)) = True := eq_true (by omega)
    have hw : wrap64 ((p : Int) + 1) = ((p + 1 : Nat) : Int) := by rw [w64] <;> omega
    have hdg : wrap64 (dg + 1) = dg + 1 := by
      have : 0 ≤ dg := by cases st <;> simp only [nst] at h3 <;> omega
      rw [w64] <;> omega
    have hb := byte_is s hs p h1 e
    have hbb := byte_bad s (p : Int) e
    have plcp := plc_dr s p h1
    have plcq := plc_dr s (p + 1) (by omega)
    have IH := fun (st' : NS) (n' : Int) (mi' : Bool) (h : nst st' n' mi' (dg + 1)) (hst : st' ≠ .start) => ih (p + 1) st' n' mi' (dg + 1) (by omega) (by omega) h (by omega) (fun x => absurd x hst)
    have hr := bt_range s (p : Int)
    have step0 : ∀ k, edits_scanner_number.l0 (k + 3) e n mi dg s (p : Int) false = edits_scanner_number.j4 (k + 1) e n mi dg (bt s (p : Int)) (decide (bt s (p : Int) < 48 ∨ bt s (p : Int) > 57)) s (p : Int) false := by
      intro k
      simp only [edits_scanner_number.l0, edits_scanner_number.j3, Bool.false_eq_true, if_false, if_true, A1, A2, decide_true]
      by_cases c : bt s (p : Int) < 48
      · rw [if_pos c, decide_eq_true (Or.inl c)]
      · rw [if_neg c]
        congr 1
        by_cases c2 : bt s (p : Int) > 57
        · rw [decide_eq_true c2, decide_eq_true (Or.inr c2)]
        · rw [decide_eq_false c2, decide_eq_false (by omega)]
    rw [dr_cons s p hlt] at hb plcp ⊢
    generalize (bytesOf s).drop (p + 1) = R at hb plcp plcq IH ⊢
    clear ih A1 A2 h4
    generalize bt s (p : Int) = c at hb step0 h5' hr plcp ⊢
    by_cases hc : c < 48 ∨ c > 57
    · -- no digit
      have hstep : st.step c = none := by
        cases st with
        | start => have := h5' rfl; simp only [NS.step]; rw [if_neg this, if_neg (by omega)]
        | minus => simp only [NS.step]; rw [if_neg (by omega)]
        | num neg m => simp only [NS.step]; rw [if_neg (by omega)]
      by_cases hz : dg = 0
      · have hnn : st.isNum = false := by
          cases st with
          | start => rfl
          | minus => rfl
          | num neg m => simp only [nst] at h3; omega
        refine ⟨n, ⟨3, fun k hk => ?_⟩, fun u r h => ?_⟩
        · obtain ⟨k, rfl⟩ : ∃ m, k = m + 3 := ⟨k - 3, by omega⟩
          refine (step0 k).trans ?_
          rw [decide_eq_true hc]
          simp only [edits_scanner_number.j4, if_true, hz, hbb, Option.bind_some, takeL, hnn, Bool.false_eq_true, false_and, if_false, hstep, after, plcp]
        · simp [takeL, hnn, hstep] at h
      · have hnn : ∃ neg m, st = .num neg m := by
          cases st with
          | start => simp only [nst] at h3; omega
          | minus => simp only [nst] at h3; omega
          | num neg m => exact ⟨neg, m, rfl⟩
        obtain ⟨neg, m, rfl⟩ := hnn
        refine ⟨n, ⟨3, fun k hk => ?_⟩, fun u r h => ?_⟩
        · obtain ⟨k, rfl⟩ : ∃ m, k = m + 3 := ⟨k - 3, by omega⟩
          refine (step0 k).trans ?_
          rw [decide_eq_true hc]
          simp only [edits_scanner_number.j4, if_true, hz, if_false, hb, Option.bind_some, takeL, NS.isNum, true_and, byteL, hstep]
          by_cases hce : c = e
          · simp only [hce, if_true, after]
          · simp only [hce, if_false, after]
        · simp only [takeL, NS.isNum, true_and, hstep] at h
          split at h
          · injection h with h _
            rw [← h]
            exact h3.1
          · cases h
    · -- a digit
      have hd : (c - 48) % 256 = c - 48 := by omega
      have hne : c ≠ e := by omega
      have hno : ¬(st.isNum = true ∧ c = e) := fun h => hne h.2
      have hj4 : ∀ k, edits_scanner_number.l0 (k + 3) e n mi dg s (p : Int) false = edits_scanner_number.j5 k e n mi dg (c - 48) (decide (dg = 1 ∧ n = 0 ∨ mi = true ∧ dg = 0 ∧ c - 48 = 0)) s (p : Int) false := by
        intro k
        rw [step0, decide_eq_false hc]
        simp only [edits_scanner_number.j4, Bool.false_eq_true, if_false, hd]
        by_cases a1 : dg = 1
        · rw [if_pos a1]
          by_cases a2 : n = 0
          · rw [if_pos a2, decide_eq_true (Or.inl ⟨a1, a2⟩)]
          · rw [if_neg a2]
            have : decide (dg = 1 ∧ n = 0 ∨ mi = true ∧ dg = 0 ∧ c - 48 = 0) = false := decide_eq_false (by omega)
            rw [this]
            by_cases a3 : mi = true
            · rw [if_pos a3, if_neg (by omega)]
            · rw [if_neg a3]
        · rw [if_neg a1]
          by_cases a3 : mi = true
          · rw [if_pos a3]
            by_cases a4 : dg = 0
            · rw [if_pos a4]
              congr 1
              by_cases a5 : c - 48 = 0
              · rw [a5, decide_eq_true (Or.inr ⟨a3, a4, rfl⟩)]; rfl
              · rw [decide_eq_false (by omega)]
                exact beq_eq_false_iff_ne.2 a5
            · rw [if_neg a4, decide_eq_false (by omega)]
          · rw [if_neg a3, decide_eq_false]
            rintro (h | h)
            · exact a1 h.1
            · exact a3 h.1
      have badcase : st.step c = none → (∀ k, edits_scanner_number.j5 (k + 1) e n mi dg (c - 48) (decide (dg = 1 ∧ n = 0 ∨ mi = true ∧ dg = 0 ∧ c - 48 = 0)) s (p : Int) false = some (0, s, (p : Int), true)) → ∃ v, Ev (fun k => edits_scanner_number.l0 k e n mi dg s (p : Int) false) (v, s, after s (takeL e st (c :: R))) ∧ ∀ u r, takeL e st (c :: R) = .ok u r → v = u := by
        intro hstep hj
        refine ⟨0, ⟨4, fun k hk => ?_⟩, fun u r h => ?_⟩
        · obtain ⟨k, rfl⟩ : ∃ m, k = m + 4 := ⟨k - 4, by omega⟩
          refine (hj4 (k + 1)).trans ?_
          rw [hj]
          simp only [takeL]
          rw [if_neg hno, hstep]
          simp only [after, plcp]
        · simp only [takeL] at h
          rw [if_neg hno, hstep] at h
          cases h
      have okcase : ∀ (st' : NS) (n' : Int), st.step c = some st' → st' ≠ .start → nst st' n' mi (dg + 1) → (∀ k, edits_scanner_number.j5 (k + 1) e n mi dg (c - 48) (decide (dg = 1 ∧ n = 0 ∨ mi = true ∧ dg = 0 ∧ c - 48 = 0)) s (p : Int) false = edits_scanner_number.l0 k e n' mi (dg + 1) s ((p + 1 : Nat) : Int) false) → ∃ v, Ev (fun k => edits_scanner_number.l0 k e n mi dg s (p : Int) false) (v, s, after s (takeL e st (c :: R))) ∧ ∀ u r, takeL e st (c :: R) = .ok u r → v = u := by
        intro st' n' hstep hns hn' hj
        obtain ⟨v, ⟨K, hK⟩, hv⟩ := IH st' n' mi hn' hns
        have ht : takeL e st (c :: R) = takeL e st' R := by
          simp only [takeL]
          rw [if_neg hno, hstep]
        rw [ht]
        refine ⟨v, ⟨K + 4, fun k hk => ?_⟩, hv⟩
        obtain ⟨k, rfl⟩ : ∃ m, k = m + 4 := ⟨k - 4, by omega⟩
        refine (hj4 (k + 1)).trans ?_
        rw [hj]
        exact hK k (by omega)
      -- the state turns as the machine does
      have j5go : ∀ (neg : Bool) (m : Int), mi = neg → n = sgn neg m → 0 ≤ m → m ≤ lim neg → decide (dg = 1 ∧ n = 0 ∨ mi = true ∧ dg = 0 ∧ c - 48 = 0) = false →
          (m * 10 + (c - 48) ≤ lim neg → ∀ k, edits_scanner_number.j5 (k + 1) e n mi dg (c - 48) (decide (dg = 1 ∧ n = 0 ∨ mi = true ∧ dg = 0 ∧ c - 48 = 0)) s (p : Int) false = edits_scanner_number.l0 k e (sgn neg (m * 10 + (c - 48))) mi (dg + 1) s ((p + 1 : Nat) : Int) false) ∧
          (¬ m * 10 + (c - 48) ≤ lim neg → ∀ k, edits_scanner_number.j5 (k + 1) e n mi dg (c - 48) (decide (dg = 1 ∧ n = 0 ∨ mi = true ∧ dg = 0 ∧ c - 48 = 0)) s (p : Int) false = some (0, s, (p : Int), true)) := by
        intro neg m hmi hn h0 hl hf
        subst hmi
        rw [hf]
        cases mi with
        | true =>
          simp only [sgn, lim, if_true] at hn hl ⊢
          constructor
          · intro h k
            simp only [edits_scanner_number.j5, Bool.false_eq_true, if_false, if_true, hdg, hw]
            rw [tdiv_lo2 (by omega), if_neg (by omega), w64 (x := n * 10) (by omega) (by omega), w64 (by omega) (by omega)]
            congr 1
            omega
          · intro h k
            simp only [edits_scanner_number.j5, Bool.false_eq_true, if_false, if_true, hdg, hw]
            rw [tdiv_lo2 (by omega), if_pos (by omega)]
        | false =>
          simp only [sgn, lim, Bool.false_eq_true, if_false] at hn hl ⊢
          constructor
          · intro h k
            simp only [edits_scanner_number.j5, Bool.false_eq_true, if_false, if_true, hdg, hw]
            rw [tdiv_hi2 (by omega), if_neg (by omega), w64 (x := n * 10) (by omega) (by omega), w64 (by omega) (by omega)]
            congr 1
            omega
          · intro h k
            simp only [edits_scanner_number.j5, Bool.false_eq_true, if_false, if_true, hdg, hw]
            rw [tdiv_hi2 (by omega), if_pos (by omega)]
      cases st with
      | start =>
        obtain ⟨hn, hm, hg⟩ := h3
        obtain ⟨j1, _⟩ := j5go false 0 hm (by rw [hn]; rfl) (by omega) (by simp [lim]) (decide_eq_false (by rw [hm]; simp; omega))
        have hz : (0 : Int) * 10 + (c - 48) = c - 48 := by omega
        rw [hz] at j1
        refine okcase (.num false (c - 48)) (sgn false (c - 48)) (by simp only [NS.step]; rw [if_neg (h5' rfl), if_pos (by omega)]) (by simp) ⟨rfl, hm, by omega, by omega, by simp only [lim, Bool.false_eq_true, if_false]; omega, by omega, by simp⟩ (j1 (by simp only [lim, Bool.false_eq_true, if_false]; omega))
      | minus =>
        obtain ⟨hn, hm, hg⟩ := h3
        by_cases hz : c = 48
        · refine badcase (by simp only [NS.step]; rw [if_neg (by omega)]) (fun k => ?_)
          rw [decide_eq_true (Or.inr ⟨hm, hg, by omega⟩)]
          simp only [edits_scanner_number.j5, if_true]
        · obtain ⟨j1, _⟩ := j5go true 0 hm (by rw [hn]; rfl) (by omega) (by simp [lim]) (decide_eq_false (by omega))
          have hz0 : (0 : Int) * 10 + (c - 48) = c - 48 := by omega
          rw [hz0] at j1
          refine okcase (.num true (c - 48)) (sgn true (c - 48)) (by simp only [NS.step]; rw [if_pos (by omega)]) (by simp) ⟨rfl, hm, by omega, by omega, by simp only [lim, if_true]; omega, by omega, fun _ => by omega⟩ (j1 (by simp only [lim, if_true]; omega))
      | num neg m =>
        obtain ⟨hn, hm, hg, h0, hl, hz, hp⟩ := h3
        by_cases hm0 : m = 0
        · have hz1 := hz.1 hm0
          refine badcase (by simp only [NS.step]; rw [if_neg (by omega)]) (fun k => ?_)
          rw [decide_eq_true (Or.inl ⟨hz1.1, by rw [hn, hm0]; cases neg <;> rfl⟩)]
          simp only [edits_scanner_number.j5, if_true]
        · have hn0 : n ≠ 0 := by rw [hn]; cases neg <;> simp [sgn] <;> omega
          obtain ⟨j1, j2⟩ := j5go neg m hm hn h0 hl (decide_eq_false (by omega))
          by_cases hfit : m * 10 + (c - 48) ≤ lim neg
          · exact okcase (.num neg (m * 10 + (c - 48))) _ (by simp only [NS.step]; rw [if_pos ⟨by omega, by omega, hm0, hfit⟩]) (by simp) ⟨rfl, hm, by omega, by omega, hfit, by omega, fun _ => by omega⟩ (j1 hfit)
          · exact badcase (by simp only [NS.step]; rw [if_neg (fun x => hfit x.2.2.2)]) (j2 hfit)
theorem number_is (s : ByteArray) (hs : s.size ≤ 140737488351232) (e : Int) (he : ¬(48 ≤ e ∧ e ≤ 57) ∧ e ≠ 45) (p : Nat) (h : p ≤ s.size) :
    ∃ v, Ev (fun k => edits_scanner_number.f k s (p : Int) false e) (v, s, after s (takeL e .start ((bytesOf s).drop p))) ∧ ∀ u r, takeL e .start ((bytesOf s).drop p) = .ok u r → v = u := by
  by_cases hlt : p < s.size
  · have A1 : ((p : Int) < (s.size : Int)) = True := eq_true (by omega)
    have A2 : ((0 : Int) ≤ (p : Int)) = True := eq_true (by omega)
    have hw : wrap64 ((p : Int) + 1) = ((p + 1 : Nat) : Int) := by rw [w64] <;> omega
    by_cases hm : bt s (p : Int) = 45
    · obtain ⟨v, ⟨K, hK⟩, hv⟩ := num_loop s hs e he _ (p + 1) .minus 0 true 0 (by omega) rfl ⟨rfl, rfl, rfl⟩ (by omega) (fun x => by cases x)
      have ht : takeL e .start ((bytesOf s).drop p) = takeL e .minus ((bytesOf s).drop (p + 1)) := by
        rw [dr_cons s p hlt, hm]
        simp [takeL, NS.isNum, NS.step]
      rw [ht]
      refine ⟨v, ⟨K + 2, fun k hk => ?_⟩, hv⟩
      obtain ⟨k, rfl⟩ : ∃ m, k = m + 2 := ⟨k - 2, by omega⟩
      simp only [edits_scanner_number.f, edits_scanner_number.j0, edits_scanner_number.j1, Bool.false_eq_true, if_false, if_true, A1, A2, hm, hw, show ((45 : Int) == 45) = true from rfl]
      exact hK k (by omega)
    · obtain ⟨v, ⟨K, hK⟩, hv⟩ := num_loop s hs e he _ p .start 0 false 0 h rfl ⟨rfl, rfl, rfl⟩ (by omega) (fun _ _ => hm)
      refine ⟨v, ⟨K + 2, fun k hk => ?_⟩, hv⟩
      obtain ⟨k, rfl⟩ : ∃ m, k = m + 2 := ⟨k - 2, by omega⟩
      simp only [edits_scanner_number.f, edits_scanner_number.j0, edits_scanner_number.j1, Bool.false_eq_true, if_false, if_true, A1, A2, beq_eq_false_iff_ne.2 hm]
      exact hK k (by omega)
  · have A1 : ((p : Int) < (s.size : Int)) = False := eq_false (by omega)
    obtain ⟨v, ⟨K, hK⟩, hv⟩ := num_loop s hs e he _ p .start 0 false 0 h rfl ⟨rfl, rfl, rfl⟩ (by omega) (fun _ hx => absurd hx hlt)
    refine ⟨v, ⟨K + 2, fun k hk => ?_⟩, hv⟩
    obtain ⟨k, rfl⟩ : ∃ m, k = m + 2 := ⟨k - 2, by omega⟩
    simp only [edits_scanner_number.f, edits_scanner_number.j0, edits_scanner_number.j1, Bool.false_eq_true, if_false, if_true, A1]
    exact hK k (by omega)
theorem number_bad (s : ByteArray) (p e : Int) : Ev (fun k => edits_scanner_number.f k s p true e) (0, s, p, true) := by
  refine ⟨5, fun k hk => ?_⟩
  obtain ⟨k, rfl⟩ : ∃ m, k = m + 5 := ⟨k - 5, by omega⟩
  simp [edits_scanner_number.f, edits_scanner_number.j0, edits_scanner_number.j1, edits_scanner_number.l0, edits_scanner_number.j3, byte_bad]
end Go.Proofs.YtaihajmdngoeiaaDoor.Q

namespace Go.Proofs.YtaihajmdngoeiaaDoor.Q
open Go.RowKit Go.Proofs.YtaihajmdngoeiaaDoorW.PrintWords Go.Proofs.YtaihajmdngoeiaaDoorW.PrintLast Go.Proofs.YtaihajmdngoeiaaDoorW.PrintMore
open Go.Proofs.YtaihajmdngoeiaaDoor.F
set_option linter.unusedVariables false
set_option linter.unusedSimpArgs false

theorem quot_loop (s : ByteArray) (hs : s.size ≤ 140737488351232) (d : Nat) : ∀ (p : Nat) (acc : List Int), p ≤ s.size → s.size - p ≤ d → acc.length ≤ p →
    ∃ v, Ev (fun k => edits_scanner_quoted.l0 k acc s (p : Int) false) (v, s, after s (quotL false acc ((bytesOf s).drop p))) ∧ ∀ u r, quotL false acc ((bytesOf s).drop p) = .ok u r → v = strOfNums u := by
  have atEnd : ∀ (p : Nat) (acc : List Int), p = s.size → ∃ v, Ev (fun k => edits_scanner_quoted.l0 k acc s (p : Int) false) (v, s, after s (quotL false acc ((bytesOf s).drop p))) ∧ ∀ u r, quotL false acc ((bytesOf s).drop p) = .ok u r → v = strOfNums u := by
    intro p acc hp
    have A1 : ((p : Int) = (s.size : Int)) = True := eq_true (by omega)
    have plc0 : plc s [] = (p : Int) := by unfold plc; simp [hp]
    rw [List.drop_eq_nil_of_le (by rw [bytesOf_length]; omega)]
    refine ⟨strOfNums acc, ⟨2, fun k hk => ?_⟩, fun u r h => by simp [quotL] at h⟩
    obtain ⟨k, rfl⟩ : ∃ m, k = m + 2 := ⟨k - 2, by omega⟩
    simp only [edits_scanner_quoted.l0, edits_scanner_quoted.j1, Bool.false_eq_true, if_false, if_true, A1, quotL, after, plc0]
  induction d with
  | zero => intro p acc h1 h2 h3; exact atEnd p acc (by omega)
  | succ d ih =>
    intro p acc h1 h2 h3
    by_cases hp : p = s.size
    · exact atEnd p acc hp
    have hlt : p < s.size := by omega
    have A1 : ((p : Int) = (s.size : Int)) = False := eq_false (by omega)
    have A2 : ((0 : Int) ≤ (p : Int)) = True := eq_true (by omega)
    have A3 : ((p : Int) < (s.size : Int)) = True := eq_true (by omega)
    have A4 : (acc.length < 140737488355328) = True := eq_true (by omega)
    have hw : wrap64 ((p : Int) + 1) = ((p + 1 : Nat) : Int) := by rw [w64] <;> omega
    have plcp := plc_dr s p h1
    have plcq := plc_dr s (p + 1) (by omega)
    have IH1 := fun c => ih (p + 1) (acc ++ [c]) (by omega) (by omega) (by simp; omega)
    have step0 : ∀ k, edits_scanner_quoted.l0 (k + 1) acc s (p : Int) false = edits_scanner_quoted.j1 k acc (bt s (p : Int) == 10) s (p : Int) false := by
      intro k
      simp only [edits_scanner_quoted.l0, Bool.false_eq_true, if_false, if_true, A1, A2, A3]
    rw [dr_cons s p hlt] at plcp ⊢
    by_cases e1 : p + 1 = s.size
    · have A5 : (((p + 1 : Nat) : Int) = (s.size : Int)) = True := eq_true (by omega)
      have stepJ : ∀ k, edits_scanner_quoted.j1 (k + 1) acc false s (p : Int) false = if bt s (p : Int) = 34 then some (strOfNums acc, s, ((p + 1 : Nat) : Int), false) else if bt s (p : Int) = 92 then some (strOfNums acc, s, ((p + 1 : Nat) : Int), true) else edits_scanner_quoted.l0 k (acc ++ [bt s (p : Int)]) s ((p + 1 : Nat) : Int) false := by
        intro k
        simp only [edits_scanner_quoted.j1, Bool.false_eq_true, if_false, if_true, A2, A3, A4, A5, hw]
      rw [List.drop_eq_nil_of_le (by rw [bytesOf_length]; omega)] at plcp plcq IH1 ⊢
      clear ih atEnd
      generalize bt s (p : Int) = c at step0 stepJ plcp ⊢
      by_cases c10 : c = 10
      · subst c10
        refine ⟨strOfNums acc, ⟨2, fun k hk => ?_⟩, fun u r h => by simp [quotL] at h⟩
        obtain ⟨k, rfl⟩ : ∃ m, k = m + 2 := ⟨k - 2, by omega⟩
        refine (step0 (k + 1)).trans ?_
        simp [edits_scanner_quoted.j1, quotL, after, plcp]
      have b10 := beq_eq_false_iff_ne.2 c10
      by_cases c34 : c = 34
      · subst c34
        refine ⟨strOfNums acc, ⟨2, fun k hk => ?_⟩, fun u r h => ?_⟩
        · obtain ⟨k, rfl⟩ : ∃ m, k = m + 2 := ⟨k - 2, by omega⟩
          refine (step0 (k + 1)).trans ?_
          rw [b10, stepJ]
          simp [quotL, after, plcq]
        · simp [quotL] at h; rw [h.1]
      by_cases c92 : c = 92
      · subst c92
        refine ⟨strOfNums acc, ⟨2, fun k hk => ?_⟩, fun u r h => by simp [quotL] at h⟩
        obtain ⟨k, rfl⟩ : ∃ m, k = m + 2 := ⟨k - 2, by omega⟩
        refine (step0 (k + 1)).trans ?_
        rw [b10, stepJ]
        simp [quotL, after, plcq]
      · obtain ⟨v, ⟨K, hK⟩, hv⟩ := IH1 c
        have hq : quotL false acc [c] = quotL false (acc ++ [c]) [] := by simp [quotL, c10, c34, c92]
        rw [hq]
        refine ⟨v, ⟨K + 2, fun k hk => ?_⟩, hv⟩
        obtain ⟨k, rfl⟩ : ∃ m, k = m + 2 := ⟨k - 2, by omega⟩
        refine (step0 (k + 1)).trans ?_
        rw [b10, stepJ, if_neg c34, if_neg c92]
        exact hK k (by omega)
    · have hlt1 : p + 1 < s.size := by omega
      have hw2 : wrap64 (((p + 1 : Nat) : Int) + 1) = ((p + 1 + 1 : Nat) : Int) := by rw [w64] <;> omega
      have plcr := plc_dr s (p + 1 + 1) (by omega)
      have IH2 := fun c => ih (p + 1 + 1) (acc ++ [c]) (by omega) (by omega) (by simp; omega)
      have A5 : (((p + 1 : Nat) : Int) = (s.size : Int)) = False := eq_false (by omega)
      have A6 : ((0 : Int) ≤ ((p + 1 : Nat) : Int)) = True := eq_true (by omega)
      have A7 : (((p + 1 : Nat) : Int) < (s.size : Int)) = True := eq_true (by omega)
      have stepJ : ∀ k, edits_scanner_quoted.j1 (k + 1) acc false s (p : Int) false = if bt s (p : Int) = 34 then some (strOfNums acc, s, ((p + 1 : Nat) : Int), false) else if bt s (p : Int) = 92 then (if bt s ((p + 1 : Nat) : Int) = 34 then edits_scanner_quoted.j2 k acc (bt s ((p + 1 : Nat) : Int)) (bt s ((p + 1 : Nat) : Int)) (bt s ((p + 1 : Nat) : Int) == 34) s ((p + 1 : Nat) : Int) false else edits_scanner_quoted.j2 k acc (bt s ((p + 1 : Nat) : Int)) (bt s ((p + 1 : Nat) : Int)) (bt s ((p + 1 : Nat) : Int) == 92) s ((p + 1 : Nat) : Int) false) else edits_scanner_quoted.l0 k (acc ++ [bt s (p : Int)]) s ((p + 1 : Nat) : Int) false := by
        intro k
        simp only [edits_scanner_quoted.j1, Bool.false_eq_true, if_false, if_true, A2, A3, A4, A5, A6, A7, hw]
      have stepK : ∀ (k : Nat) (x y : Int) (z : Bool), edits_scanner_quoted.j2 (k + 1) acc x y z s ((p + 1 : Nat) : Int) false = if z = true then edits_scanner_quoted.l0 k (acc ++ [x]) s ((p + 1 + 1 : Nat) : Int) false else if y = 110 then edits_scanner_quoted.l0 k (acc ++ [10]) s ((p + 1 + 1 : Nat) : Int) false else edits_scanner_quoted.l0 k acc s ((p + 1 : Nat) : Int) true := by
        intro k x y z
        simp only [edits_scanner_quoted.j2, Bool.false_eq_true, if_false, if_true, A4, hw2]
      have stepB : ∀ k, edits_scanner_quoted.l0 (k + 1) acc s ((p + 1 : Nat) : Int) true = some (strOfNums acc, s, ((p + 1 : Nat) : Int), true) := by
        intro k
        simp only [edits_scanner_quoted.l0, if_true]
      rw [dr_cons s (p + 1) hlt1] at IH1 plcp plcq ⊢
      clear ih atEnd
      generalize bt s (p : Int) = c at step0 stepJ plcp ⊢
      generalize bt s ((p + 1 : Nat) : Int) = c2 at stepJ plcp plcq IH1 ⊢
      generalize (bytesOf s).drop (p + 1 + 1) = R at plcp plcq plcr IH1 IH2 ⊢
      by_cases c10 : c = 10
      · subst c10
        refine ⟨strOfNums acc, ⟨2, fun k hk => ?_⟩, fun u r h => by simp [quotL] at h⟩
        obtain ⟨k, rfl⟩ : ∃ m, k = m + 2 := ⟨k - 2, by omega⟩
        refine (step0 (k + 1)).trans ?_
        simp [edits_scanner_quoted.j1, quotL, after, plcp]
      have b10 := beq_eq_false_iff_ne.2 c10
      by_cases c34 : c = 34
      · subst c34
        refine ⟨strOfNums acc, ⟨2, fun k hk => ?_⟩, fun u r h => ?_⟩
        · obtain ⟨k, rfl⟩ : ∃ m, k = m + 2 := ⟨k - 2, by omega⟩
          refine (step0 (k + 1)).trans ?_
          rw [b10, stepJ]
          simp [quotL, after, plcq]
        · simp [quotL] at h; rw [h.1]
      by_cases c92 : c = 92
      · subst c92
        have hq : quotL false acc (92 :: c2 :: R) = quotL true acc (c2 :: R) := by simp [quotL]
        rw [hq]
        by_cases f1 : c2 = 34 ∨ c2 = 92
        · obtain ⟨v, ⟨K, hK⟩, hv⟩ := IH2 c2
          have hq2 : quotL true acc (c2 :: R) = quotL false (acc ++ [c2]) R := by rw [quotL, if_pos f1]
          rw [hq2]
          refine ⟨v, ⟨K + 3, fun k hk => ?_⟩, hv⟩
          obtain ⟨k, rfl⟩ : ∃ m, k = m + 3 := ⟨k - 3, by omega⟩
          refine (step0 (k + 2)).trans ?_
          rw [b10, stepJ, if_neg (by omega), if_pos rfl]
          have hif : (if c2 = 34 then edits_scanner_quoted.j2 (k + 1) acc c2 c2 (c2 == 34) s ((p + 1 : Nat) : Int) false else edits_scanner_quoted.j2 (k + 1) acc c2 c2 (c2 == 92) s ((p + 1 : Nat) : Int) false) = edits_scanner_quoted.l0 k (acc ++ [c2]) s ((p + 1 + 1 : Nat) : Int) false := by
            rcases f1 with f | f
            · subst f; rw [if_pos rfl, stepK]; rfl
            · subst f; rw [if_neg (by omega), stepK]; rfl
          rw [hif]
          exact hK k (by omega)
        · have g34 : c2 ≠ 34 := fun h => f1 (Or.inl h)
          have g92 : c2 ≠ 92 := fun h => f1 (Or.inr h)
          by_cases f2 : c2 = 110
          · obtain ⟨v, ⟨K, hK⟩, hv⟩ := IH2 10
            have hq2 : quotL true acc (c2 :: R) = quotL false (acc ++ [10]) R := by rw [quotL, if_neg f1, if_pos f2]
            rw [hq2]
            refine ⟨v, ⟨K + 3, fun k hk => ?_⟩, hv⟩
            obtain ⟨k, rfl⟩ : ∃ m, k = m + 3 := ⟨k - 3, by omega⟩
            refine (step0 (k + 2)).trans ?_
            rw [b10, stepJ, if_neg (by omega), if_pos rfl, if_neg g34, stepK, beq_eq_false_iff_ne.2 g92, if_neg (by simp), if_pos f2]
            exact hK k (by omega)
          · have hq2 : quotL true acc (c2 :: R) = .bad (c2 :: R) := by rw [quotL, if_neg f1, if_neg f2]
            rw [hq2]
            refine ⟨strOfNums acc, ⟨4, fun k hk => ?_⟩, fun u r h => by cases h⟩
            obtain ⟨k, rfl⟩ : ∃ m, k = m + 4 := ⟨k - 4, by omega⟩
            refine (step0 (k + 3)).trans ?_
            rw [b10, stepJ, if_neg (by omega), if_pos rfl, if_neg g34, stepK, beq_eq_false_iff_ne.2 g92, if_neg (by simp), if_neg f2, stepB]
            simp only [after, plcq]
      · obtain ⟨v, ⟨K, hK⟩, hv⟩ := IH1 c
        have hq : quotL false acc (c :: c2 :: R) = quotL false (acc ++ [c]) (c2 :: R) := by rw [quotL, if_neg c10, if_neg c34, if_neg c92]
        rw [hq]
        refine ⟨v, ⟨K + 2, fun k hk => ?_⟩, hv⟩
        obtain ⟨k, rfl⟩ : ∃ m, k = m + 2 := ⟨k - 2, by omega⟩
        refine (step0 (k + 1)).trans ?_
        rw [b10, stepJ, if_neg c34, if_neg c92]
        exact hK k (by omega)
theorem suf_of {α : Type} {P : List Int → Res α} (hG : Good P) (s : ByteArray) (p : Nat) (v : α) (r : List Int) (hp : p ≤ s.size) (hP : P ((bytesOf s).drop p) = .ok v r) : ∃ q : Nat, q ≤ s.size ∧ r = (bytesOf s).drop q := by
  obtain ⟨c, hc, _, _⟩ := hG _ _ _ hP
  have hl := congrArg List.length hc
  rw [dr_len, List.length_append] at hl
  refine ⟨p + c.length, by omega, ?_⟩
  rw [← List.drop_drop, hc, List.drop_left]
def quotB (l : List Int) : Res (List Int) := (byteL 34 l).then fun _ l => quotL false [] l
theorem quotB_good : Good quotB := Good.then (byteL_good 34) fun _ => quotL_good false []
theorem quoted_is (s : ByteArray) (hs : s.size ≤ 140737488351232) (p : Nat) (h : p ≤ s.size) :
    ∃ v, Ev (fun k => edits_scanner_quoted.f k s (p : Int) false) (v, s, after s (quotB ((bytesOf s).drop p))) ∧ ∀ u r, quotB ((bytesOf s).drop p) = .ok u r → v = strOfNums u := by
  have hb := byte_is s hs p h 34
  unfold quotB
  cases h1 : byteL 34 ((bytesOf s).drop p) with
  | bad r =>
    rw [h1] at hb
    refine ⟨strOfNums [], ⟨1, fun k hk => ?_⟩, fun u r h => by cases h⟩
    obtain ⟨k, rfl⟩ : ∃ m, k = m + 1 := ⟨k - 1, by omega⟩
    simp only [edits_scanner_quoted.f]
    rw [hb]
    simp only [Option.bind_some, after, edits_scanner_quoted.l0, if_true, Res.then]
  | ok u r =>
    rw [h1] at hb
    obtain ⟨q, hq, rfl⟩ := suf_of (byteL_good 34) s p u r h h1
    obtain ⟨v, ⟨K, hK⟩, hv⟩ := quot_loop s hs _ q [] hq (Nat.le_refl _) (by simp)
    refine ⟨v, ⟨K, fun k hk => ?_⟩, hv⟩
    simp only [edits_scanner_quoted.f]
    rw [hb]
    simp only [Option.bind_some, after, Res.then]
    rw [plc_dr s q hq]
    exact hK k hk
theorem quoted_bad (s : ByteArray) (p : Int) : Ev (fun k => edits_scanner_quoted.f k s p true) (strOfNums [], s, p, true) := by
  refine ⟨1, fun k hk => ?_⟩
  obtain ⟨k, rfl⟩ : ∃ m, k = m + 1 := ⟨k - 1, by omega⟩
  simp [edits_scanner_quoted.f, byte_bad, edits_scanner_quoted.l0]
end Go.Proofs.YtaihajmdngoeiaaDoor.Q

-- edits.Parse: made by wip/mkparse.py out of what the changed print tool prints of it with a scanner handed in
namespace Go.Proofs.YtaihajmdngoeiaaDoor.F
open Go.RowKit Go.Proofs.YtaihajmdngoeiaaDoorW.PrintWords Go.Proofs.YtaihajmdngoeiaaDoorW.PrintLast Go.Proofs.YtaihajmdngoeiaaDoorW.PrintMore
attribute [local go_sem] max2_int min2_int max_two min_two max_three min_three max_four min_four   -- for this text's walks alone
set_option linter.unusedVariables false
set_option linter.unusedSimpArgs false

/-! ### edits_ParseS: function 12 -/
def edits_ParseS.l0 : Nat → ByteArray → List (S42) → ByteArray → Int → Bool → Option ((List (S42)) × Int × Int × ByteArray × Int × Bool)
  | 0, _, _, _, _, _ => none
  | k + 1, x0, x6, x2000, x2001, x2002 => if x2001 < (x0.size : Int) then (if (x6.length : Int) = 65536 then (some (([] : List (S42)), 2, x2001, x2000, x2001, x2002)) else ((edits_scanner_number.f k x2000 x2001 x2002 44).bind fun bt125 => ((edits_scanner_number.f k bt125.2.1 bt125.2.2.1 bt125.2.2.2 32).bind fun bt130 => ((edits_scanner_quoted.f k bt130.2.1 bt130.2.2.1 bt130.2.2.2).bind fun bt134 => ((edits_scanner_byte.f bt134.2.1 bt134.2.2.1 bt134.2.2.2 10).bind fun bt138 => (if bt138.2.2 = true then (some (([] : List (S42)), 12, bt138.2.1, bt138.1, bt138.2.1, bt138.2.2)) else (if x6.length < 4398046511104 then (edits_ParseS.l0 k x0 (x6 ++ [(⟨bt125.1, bt130.1, bt134.1⟩ : S42)]) bt138.1 bt138.2.1 bt138.2.2) else (none)))))))) else (some (x6, 0, 0, x2000, x2001, x2002))
def edits_ParseS.f (k : Nat) (a0 : ByteArray) (s1_0 : ByteArray) (s1_1 : Int) (s1_2 : Bool) : Option ((List (S42)) × Int × Int × ByteArray × Int × Bool) := edits_ParseS.l0 k a0 ([] : List (S42)) s1_0 s1_1 s1_2
set_option maxHeartbeats 8000000 in
set_option maxRecDepth 100000 in
theorem edits_ParseS.callsS (k : Nat) (a0 : ByteArray) (r1 : List (S42)) (r2 : Int) (r3 : Int) (r4 : ByteArray) (r5 : Int) (r6 : Bool) (w : World) (h : edits_ParseS.f k a0 a0 0 false = some (r1, r2, r3, r4, r5, r6)) :
    Calls Tryd.prog 12 #[.string a0] w fun e w' => ∃ (wB : World) (gB : Nat) (v0_ : Value), Below w.heap.size w wB ∧ e = .returned (.tuple #[v0_, .int .i64 r2, .int .i64 r3]) ∧ Kd.R k42 42 w' wB.heap.size (fun _ => True) v0_ r1 ∧ IsS65 w w' gB r4 r5 r6 ∧ Below w.heap.size w w' ∧ KeepBut wB w' gB none := by
  have hu42 := Tryd.underlying42
  have hu65 := Tryd.underlying65
  have H : (edits_ParseS.l0 k a0 ([] : List (S42)) a0 0 false) = some (r1, r2, r3, r4, r5, r6) := h
  clear h
  have H' := Aside0.mk H
  clear H
  go_enter Tryd.func12, Tryd.ntmps12
  go_wp2_with (first | ((with_reducible refine gate_dst (N := 10) rfl ?_); refine box_event ?hg (N := 10) ?hd (cs := #[.string a0, .int .i64 0, .bool false]) (t := 65) ?hr ?_; (case hd => rfl); (case hg => rfl); (case hr => first | (go_simp; done) | (go_simp; rfl)); intro gB hg wB hbox hb; have HGE := Aside0.mk (show w.heap.size ≤ gB by rw [hg]; exact Nat.le_refl _); clear hg; refine Hid.out ?_))
  have HI1 := Aside0.mk (show IsS65 w wB gB a0 0 false from ⟨hbox, HGE.out⟩)
  have HZ := Aside0.mk hb
  have HB := Aside0.mk hb
  have HK := Aside0.mk (KeepBut.refl wB gB none)
  have HL := Aside0.mk hb.size
  have HW0 := Aside0.mk hb.size
  clear hbox hb
  refine Lib.hid ?_
  go_wp2
  repeat (go_quiet (fail); try go_wp2)
  go_loopg [6] k (fun kq v6 w' => ∃ (x6_1 : List (S42)) (x2000_1 : ByteArray) (x2001_1 : Int) (x2002_1 : Bool), Aside0 (edits_ParseS.l0 kq a0 x6_1 x2000_1 x2001_1 x2002_1 = some (r1, r2, r3, r4, r5, r6)) ∧ Aside0 (kq ≤ k) ∧ Aside0 (Kd.R k42 42 w' wB.heap.size (fun _ => True) v6 x6_1) ∧ Aside0 (IsS65 w w' gB x2000_1 x2001_1 x2002_1) ∧ Aside0 (KeepBut wB w' gB none) ∧ Aside0 (Below w.heap.size w w'))
  case atStart => exact ⟨(([] : List (S42))), (a0), (0), (false), H', ⟨Nat.le_refl _⟩, ⟨by first | exact Kd.R_nil _ _ _ _ _ | exact Kd.N_nil _ _ _ _ _ | exact Kd.V_nil _ _ _ _ _ | exact Kd.Q_nil _ _ _ _ _ | exact Kd.S_nil _ _ _ _ _⟩, ⟨by repeat (first | (with_reducible first | exact HI1.out | apply IsS65.alloc | apply IsS65.drewN | apply IsS65.drew | apply IsS65.set_0 | apply IsS65.set_1 | apply IsS65.set_2) | exact HI1.out)⟩, ⟨by repeat (first | (with_reducible first | exact HK.out | apply KeepBut.set_ | apply keep_drewN | apply keep_drew | apply keep_alloc) | exact HK.out)⟩, ⟨by repeat (first | (with_reducible first | exact HB.out | apply below_alloc | apply pw_below_drewN | apply below_drew1 | refine below_set ?_ (IsS65.ge HI1.out)) | exact HB.out)⟩⟩
  case round =>
    clear H'
    try clear c1
    try clear p2
    obtain ⟨x6_1, x2000_1, x2001_1, x2002_1, HA, HK1, HO_6, HI1, HK, HB⟩ := hrel
    cases gk with
    | zero => exact absurd HA.out (by simp [edits_ParseS.l0])
    | succ k1 =>
      have H := HA.out
      clear HA
      simp only [edits_ParseS.l0] at H
      by_cases c3 : x2001_1 < (a0.size : Int)
      · rw [if_pos c3] at H
        have c3b0 : decide (x2001_1 < (a0.size : Int)) = true := decide_eq_true c3
        clear c3
        by_cases c4 : (x6_1.length : Int) = 65536
        · rw [if_pos c4] at H
          have c4b0 : ((x6_1.length : Int) == 65536) = true := beq_iff_eq.mpr c4
          have c4b1 : ((x6_1.length : Int) != 65536) = false := bne_eq_false_iff_eq.mpr c4
          clear c4
          simp only [Option.some.injEq, Prod.mk.injEq] at H
          obtain ⟨rfl, rfl, rfl, rfl, rfl, rfl⟩ := H
          obtain ⟨HGz5, hgz5⟩ := HI1.out
          have hcz5_0 := cellS65_0 HGz5
          have hcz5_1 := cellS65_1 HGz5
          have hcz5_2 := cellS65_2 HGz5
          have hfz5_0 := blk_frozen HGz5 0
          have hfz5_1 := blk_frozen HGz5 1
          have hfz5_2 := blk_frozen HGz5 2
          clear HGz5 hgz5
          obtain ⟨Ao6, co6, eo6⟩ := Kd.R_slice HO_6.out
          subst eo6
          go_wp2
          repeat (go_quiet (fail); try go_wp2)
          go_ret3
          exact ⟨wB, gB, _, HZ.out, by first | rfl | (simp [errW_none, errW_some] <;> rfl) | (simp [*, errW_none, errW_some] <;> rfl), by first | exact Kd.R_nil _ _ _ _ _ | exact Kd.N_nil _ _ _ _ _ | exact Kd.V_nil _ _ _ _ _ | exact Kd.Q_nil _ _ _ _ _ | exact Kd.S_nil _ _ _ _ _, by repeat (first | (with_reducible first | exact HI1.out | apply IsS65.alloc | apply IsS65.drewN | apply IsS65.drew | apply IsS65.set_0 | apply IsS65.set_1 | apply IsS65.set_2) | exact HI1.out), by repeat (first | (with_reducible first | exact HB.out | apply below_alloc | apply pw_below_drewN | apply below_drew1 | refine below_set ?_ (IsS65.ge HI1.out)) | exact HB.out), by repeat (first | (with_reducible first | exact HK.out | apply KeepBut.set_ | apply keep_drewN | apply keep_drew | apply keep_alloc) | exact HK.out)⟩
        · rw [if_neg c4] at H
          have c4b0 : ((x6_1.length : Int) == 65536) = false := beq_eq_false_iff_ne.mpr c4
          have c4b1 : ((x6_1.length : Int) != 65536) = true := bne_iff_ne.mpr c4
          replace H := Option.bind_eq_some_iff.mp H
          obtain ⟨⟨t125, t126, t127, t128⟩, A70, H⟩ := H
          replace H : ((edits_scanner_number.f k1 t126 t127 t128 32).bind fun bt130 => ((edits_scanner_quoted.f k1 bt130.2.1 bt130.2.2.1 bt130.2.2.2).bind fun bt134 => ((edits_scanner_byte.f bt134.2.1 bt134.2.2.1 bt134.2.2.2 10).bind fun bt138 => (if bt138.2.2 = true then (some (([] : List (S42)), 12, bt138.2.1, bt138.1, bt138.2.1, bt138.2.2)) else (if x6_1.length < 4398046511104 then (edits_ParseS.l0 k1 a0 (x6_1 ++ [(⟨t125, bt130.1, bt134.1⟩ : S42)]) bt138.1 bt138.2.1 bt138.2.2) else (none)))))) = some (r1, r2, r3, r4, r5, r6) := H
          have A7 := Aside0.mk A70
          clear A70
          replace H := Option.bind_eq_some_iff.mp H
          obtain ⟨⟨t130, t131, t132, t133⟩, A80, H⟩ := H
          replace H : ((edits_scanner_quoted.f k1 t131 t132 t133).bind fun bt134 => ((edits_scanner_byte.f bt134.2.1 bt134.2.2.1 bt134.2.2.2 10).bind fun bt138 => (if bt138.2.2 = true then (some (([] : List (S42)), 12, bt138.2.1, bt138.1, bt138.2.1, bt138.2.2)) else (if x6_1.length < 4398046511104 then (edits_ParseS.l0 k1 a0 (x6_1 ++ [(⟨t125, t130, bt134.1⟩ : S42)]) bt138.1 bt138.2.1 bt138.2.2) else (none))))) = some (r1, r2, r3, r4, r5, r6) := H
          have A8 := Aside0.mk A80
          clear A80
          replace H := Option.bind_eq_some_iff.mp H
          obtain ⟨⟨t134, t135, t136, t137⟩, A90, H⟩ := H
          replace H : ((edits_scanner_byte.f t135 t136 t137 10).bind fun bt138 => (if bt138.2.2 = true then (some (([] : List (S42)), 12, bt138.2.1, bt138.1, bt138.2.1, bt138.2.2)) else (if x6_1.length < 4398046511104 then (edits_ParseS.l0 k1 a0 (x6_1 ++ [(⟨t125, t130, t134⟩ : S42)]) bt138.1 bt138.2.1 bt138.2.2) else (none)))) = some (r1, r2, r3, r4, r5, r6) := H
          have A9 := Aside0.mk A90
          clear A90
          replace H := Option.bind_eq_some_iff.mp H
          obtain ⟨⟨t138, t139, t140⟩, A100, H⟩ := H
          replace H : (if t140 = true then (some (([] : List (S42)), 12, t139, t138, t139, t140)) else (if x6_1.length < 4398046511104 then (edits_ParseS.l0 k1 a0 (x6_1 ++ [(⟨t125, t130, t134⟩ : S42)]) t138 t139 t140) else (none))) = some (r1, r2, r3, r4, r5, r6) := H
          have A10 := Aside0.mk A100
          clear A100
          by_cases c11 : t140 = true
          · subst c11
            have H1 : (some (([] : List (S42)), 12, t139, t138, t139, true)) = some (r1, r2, r3, r4, r5, r6) := by rw [if_pos rfl] at H; exact H
            clear H
            have H := H1
            clear H1
            simp only [Option.some.injEq, Prod.mk.injEq] at H
            obtain ⟨rfl, rfl, rfl, rfl, rfl, rfl⟩ := H
            obtain ⟨HGz12, hgz12⟩ := HI1.out
            have hcz12_0 := cellS65_0 HGz12
            have hcz12_1 := cellS65_1 HGz12
            have hcz12_2 := cellS65_2 HGz12
            have hfz12_0 := blk_frozen HGz12 0
            have hfz12_1 := blk_frozen HGz12 1
            have hfz12_2 := blk_frozen HGz12 2
            clear HGz12 hgz12
            obtain ⟨Ao13, co13, eo13⟩ := Kd.R_slice HO_6.out
            subst eo13
            go_wp2_with (first | (go_at_call 30; (with_reducible refine (edits_scanner_number.calls k1 gB x2000_1 x2001_1 x2002_1 44 t125 t126 t127 t128 w _ ?side1 ?side2 A7.out).mono ?_); (case side1 => repeat (first | (with_reducible first | exact HI1.out | apply IsS65.alloc | apply IsS65.drewN | apply IsS65.drew | apply IsS65.set_0 | apply IsS65.set_1 | apply IsS65.set_2) | exact HI1.out)); (case side2 => repeat (first | (with_reducible first | exact HB.out | apply below_alloc | apply pw_below_drewN | apply below_drew1 | refine below_set ?_ (IsS65.ge HI1.out)) | exact HB.out)); rintro e w14 ⟨rfl, hi, hb, hk⟩; have n0_ := Aside0.mk (Kd.R_mono (Kd.R_keep (IsS65.apart (show IsS65 w _ gB x2000_1 x2001_1 x2002_1 from by repeat (first | (with_reducible first | exact HI1.out | apply IsS65.alloc | apply IsS65.drewN | apply IsS65.drew | apply IsS65.set_0 | apply IsS65.set_1 | apply IsS65.set_2) | exact HI1.out)) (by (with_reducible repeat (first | apply Kd.R_alloc | apply Kd.R_drewN | apply Kd.R_drew)); exact HO_6.out) (by decide)) hk (fun _ h => h.2)) (fun _ h => h.1)); have n1_ := Aside0.mk (KeepBut.trans (by repeat (first | (with_reducible first | exact HK.out | apply KeepBut.set_ | apply keep_drewN | apply keep_drew | apply keep_alloc) | exact HK.out)) hk (.inl rfl)); have n2_ := Aside0.mk (hb); have n3_ := Aside0.mk (hi); clear HO_6; clear HK; clear HB; clear HI1; have HO_6 := n0_; have HK := n1_; have HB := n2_; have HI1 := n3_; clear n0_ n1_ n2_ n3_; (try clear hb); (try clear hb2); (try clear hk); (try clear hi)) | ((with_reducible refine gate_dst (N := 7) rfl ?_); refine box_event ?hg (N := 7) ?hd (cs := #[.int .i64 0, .int .i64 0, .string (⟨#[]⟩ : ByteArray)]) (t := 42) ?hr ?_; (case hd => rfl); (case hg => rfl); (case hr => first | (go_simp; done) | (go_simp; rfl)); intro gb129 hg w15 hbox hb; have n0_ := Aside0.mk (Kd.R_below (Kd.R_elderB (by (with_reducible repeat (first | apply Kd.R_alloc | apply Kd.R_drewN | apply Kd.R_drew)); exact HO_6.out) gb129 (Nat.le_of_eq hg.symm)) hb); have n1_ := Aside0.mk (IsS65.below (by repeat (first | (with_reducible first | exact HI1.out | apply IsS65.alloc | apply IsS65.drewN | apply IsS65.drew | apply IsS65.set_0 | apply IsS65.set_1 | apply IsS65.set_2) | exact HI1.out)) hb); have n2_ := Aside0.mk (KeepBut.trans (by repeat (first | (with_reducible first | exact HK.out | apply KeepBut.set_ | apply keep_drewN | apply keep_drew | apply keep_alloc) | exact HK.out)) (KeepBut.of_below hb gB none) (.inl rfl)); have n3_ := Aside0.mk (below_step (by repeat (first | (with_reducible first | exact HB.out | apply below_alloc | apply pw_below_drewN | apply below_drew1 | refine below_set ?_ (IsS65.ge HI1.out)) | exact HB.out)) hb); have n4_ := Aside0.mk (hbox); have n5_ := Aside0.mk ((by rw [hg]; exact (keep_size (w := wB) (g := gB) (row := none) (by repeat (first | (with_reducible first | exact HK.out | apply KeepBut.set_ | apply keep_drewN | apply keep_drew | apply keep_alloc) | exact HK.out))) : wB.heap.size ≤ gb129)); have n6_ := Aside0.mk ((Nat.le_trans HW0.out (by rw [hg]; exact (keep_size (w := wB) (g := gB) (row := none) (by repeat (first | (with_reducible first | exact HK.out | apply KeepBut.set_ | apply keep_drewN | apply keep_drew | apply keep_alloc) | exact HK.out))) : wB.heap.size ≤ gb129) : w.heap.size ≤ gb129)); have n7_ := Aside0.mk ((by rw [hg]; exact Nat.ne_of_lt (IsS65.lt (show IsS65 w _ gB t126 t127 t128 from by repeat (first | (with_reducible first | exact HI1.out | apply IsS65.alloc | apply IsS65.drewN | apply IsS65.drew | apply IsS65.set_0 | apply IsS65.set_1 | apply IsS65.set_2) | exact HI1.out))) : gB ≠ gb129)); have n8_ := Aside0.mk ((by rw [hg]; exact Nat.ne_of_gt (IsS65.lt (show IsS65 w _ gB t126 t127 t128 from by repeat (first | (with_reducible first | exact HI1.out | apply IsS65.alloc | apply IsS65.drewN | apply IsS65.drew | apply IsS65.set_0 | apply IsS65.set_1 | apply IsS65.set_2) | exact HI1.out))) : gb129 ≠ gB)); clear HO_6; clear HI1; clear HK; clear HB; have HO_6 := n0_; have HI1 := n1_; have HK := n2_; have HB := n3_; have BK129 := n4_; have GW129 := n5_; have GE129 := n6_; have NB1_129 := n7_; have NB129_1 := n8_; clear n0_ n1_ n2_ n3_ n4_ n5_ n6_ n7_ n8_; clear hb hbox hg; have hnb16 := NB129_1.out; have hnc16 := NB1_129.out; have hcz17_0 : w15.cell? ⟨gb129, 0, none⟩ = some (.int .i64 0) := (blk_cell BK129.out 0).trans rfl; have hcz17_1 : w15.cell? ⟨gb129, 1, none⟩ = some (.int .i64 0) := (blk_cell BK129.out 1).trans rfl; have hcz17_2 : w15.cell? ⟨gb129, 2, none⟩ = some (.string (⟨#[]⟩ : ByteArray)) := (blk_cell BK129.out 2).trans rfl; have hfz17_0 := blk_frozen BK129.out 0; have hfz17_1 := blk_frozen BK129.out 1; have hfz17_2 := blk_frozen BK129.out 2) | (go_at_call 30; (with_reducible refine (edits_scanner_number.calls k1 gB t126 t127 t128 32 t130 t131 t132 t133 w _ ?side1 ?side2 A8.out).mono ?_); (case side1 => repeat (first | (with_reducible first | exact HI1.out | apply IsS65.alloc | apply IsS65.drewN | apply IsS65.drew | apply IsS65.set_0 | apply IsS65.set_1 | apply IsS65.set_2 | refine IsS65.far ?_ NB1_129.out _) | exact HI1.out)); (case side2 => repeat (first | (with_reducible first | exact HB.out | apply below_alloc | apply pw_below_drewN | apply below_drew1 | refine below_set ?_ (IsS65.ge HI1.out) | refine below_set ?_ GE129.out) | exact HB.out)); rintro e w18 ⟨rfl, hi, hb, hk⟩; have n0_ := Aside0.mk (Kd.R_mono (Kd.R_keep (IsS65.apart (show IsS65 w _ gB t126 t127 t128 from by repeat (first | (with_reducible first | exact HI1.out | apply IsS65.alloc | apply IsS65.drewN | apply IsS65.drew | apply IsS65.set_0 | apply IsS65.set_1 | apply IsS65.set_2 | refine IsS65.far ?_ NB1_129.out _) | exact HI1.out)) (by (with_reducible repeat (first | apply Kd.R_alloc | apply Kd.R_drewN | apply Kd.R_drew)); exact (Kd.R_mono (Kd.R_far (p := ⟨gb129, 2, none⟩) (Kd.R_far (p := ⟨gb129, 1, none⟩) (Kd.R_far (p := ⟨gb129, 0, none⟩) (Kd.R_mono HO_6.out (fun k_ hk => (⟨hk, hk.2⟩ : _ ∧ k_ ≠ gb129))) (fun _ hk => hk.2) (.int .i64 t125)) (fun _ hk => hk.2) (.int .i64 0)) (fun _ hk => hk.2) (.string (⟨#[]⟩ : ByteArray))) (fun _ h_ => h_.1))) (by decide)) hk (fun _ h => h.2)) (fun _ h => h.1)); have n1_ := Aside0.mk (KeepBut.blk hk (g' := gb129) (o := .cells #[.int .i64 t125, .int .i64 0, .string (⟨#[]⟩ : ByteArray)] 42 (0, 0)) (by (with_reducible repeat (first | refine blk_drewN ?_ _ | refine blk_drew ?_ | refine blk_alloc ?_ _)); refine blk_put (cs := #[.int .i64 t125, .int .i64 0, .string (⟨#[]⟩ : ByteArray)]) ?_ 2 _ rfl; (with_reducible repeat (first | refine blk_drewN ?_ _ | refine blk_drew ?_ | refine blk_alloc ?_ _)); refine blk_put (cs := #[.int .i64 t125, .int .i64 0, .string (⟨#[]⟩ : ByteArray)]) ?_ 1 _ rfl; (with_reducible repeat (first | refine blk_drewN ?_ _ | refine blk_drew ?_ | refine blk_alloc ?_ _)); refine blk_put (cs := #[.int .i64 0, .int .i64 0, .string (⟨#[]⟩ : ByteArray)]) ?_ 0 _ rfl; (with_reducible repeat (first | refine blk_drewN ?_ _ | refine blk_drew ?_ | refine blk_alloc ?_ _)); exact BK129.out) NB129_1.out (by simp)); have n2_ := Aside0.mk (KeepBut.trans (by repeat (first | (with_reducible first | exact HK.out | apply KeepBut.set_ | apply keep_drewN | apply keep_drew | apply keep_alloc | refine keep_far ?_ GW129.out _) | exact HK.out)) hk (.inl rfl)); have n3_ := Aside0.mk (hb); have n4_ := Aside0.mk (hi); clear HO_6; clear BK129; clear HK; clear HB; clear HI1; have HO_6 := n0_; have BK129 := n1_; have HK := n2_; have HB := n3_; have HI1 := n4_; clear n0_ n1_ n2_ n3_ n4_; (try clear hb); (try clear hb2); (try clear hk); (try clear hi); have hcz19_0 : w18.cell? ⟨gb129, 0, none⟩ = some (.int .i64 t125) := (blk_cell BK129.out 0).trans rfl; have hcz19_1 : w18.cell? ⟨gb129, 1, none⟩ = some (.int .i64 0) := (blk_cell BK129.out 1).trans rfl; have hcz19_2 : w18.cell? ⟨gb129, 2, none⟩ = some (.string (⟨#[]⟩ : ByteArray)) := (blk_cell BK129.out 2).trans rfl; have hfz19_0 := blk_frozen BK129.out 0; have hfz19_1 := blk_frozen BK129.out 1; have hfz19_2 := blk_frozen BK129.out 2) | (go_at_call 31; (with_reducible refine (edits_scanner_quoted.calls k1 gB t131 t132 t133 t134 t135 t136 t137 w _ ?side1 ?side2 A9.out).mono ?_); (case side1 => repeat (first | (with_reducible first | exact HI1.out | apply IsS65.alloc | apply IsS65.drewN | apply IsS65.drew | apply IsS65.set_0 | apply IsS65.set_1 | apply IsS65.set_2 | refine IsS65.far ?_ NB1_129.out _) | exact HI1.out)); (case side2 => repeat (first | (with_reducible first | exact HB.out | apply below_alloc | apply pw_below_drewN | apply below_drew1 | refine below_set ?_ (IsS65.ge HI1.out) | refine below_set ?_ GE129.out) | exact HB.out)); rintro e w20 ⟨rfl, hi, hb, hk⟩; have n0_ := Aside0.mk (Kd.R_mono (Kd.R_keep (IsS65.apart (show IsS65 w _ gB t131 t132 t133 from by repeat (first | (with_reducible first | exact HI1.out | apply IsS65.alloc | apply IsS65.drewN | apply IsS65.drew | apply IsS65.set_0 | apply IsS65.set_1 | apply IsS65.set_2 | refine IsS65.far ?_ NB1_129.out _) | exact HI1.out)) (by (with_reducible repeat (first | apply Kd.R_alloc | apply Kd.R_drewN | apply Kd.R_drew)); exact (Kd.R_mono (Kd.R_far (p := ⟨gb129, 1, none⟩) (Kd.R_mono HO_6.out (fun k_ hk => (⟨hk, hk.2⟩ : _ ∧ k_ ≠ gb129))) (fun _ hk => hk.2) (.int .i64 t130)) (fun _ h_ => h_.1))) (by decide)) hk (fun _ h => h.2)) (fun _ h => h.1)); have n1_ := Aside0.mk (KeepBut.blk hk (g' := gb129) (o := .cells #[.int .i64 t125, .int .i64 t130, .string (⟨#[]⟩ : ByteArray)] 42 (0, 0)) (by (with_reducible repeat (first | refine blk_drewN ?_ _ | refine blk_drew ?_ | refine blk_alloc ?_ _)); refine blk_put (cs := #[.int .i64 t125, .int .i64 0, .string (⟨#[]⟩ : ByteArray)]) ?_ 1 _ rfl; (with_reducible repeat (first | refine blk_drewN ?_ _ | refine blk_drew ?_ | refine blk_alloc ?_ _)); exact BK129.out) NB129_1.out (by simp)); have n2_ := Aside0.mk (KeepBut.trans (by repeat (first | (with_reducible first | exact HK.out | apply KeepBut.set_ | apply keep_drewN | apply keep_drew | apply keep_alloc | refine keep_far ?_ GW129.out _) | exact HK.out)) hk (.inl rfl)); have n3_ := Aside0.mk (hb); have n4_ := Aside0.mk (hi); clear HO_6; clear BK129; clear HK; clear HB; clear HI1; have HO_6 := n0_; have BK129 := n1_; have HK := n2_; have HB := n3_; have HI1 := n4_; clear n0_ n1_ n2_ n3_ n4_; (try clear hb); (try clear hb2); (try clear hk); (try clear hi); have hcz21_0 : w20.cell? ⟨gb129, 0, none⟩ = some (.int .i64 t125) := (blk_cell BK129.out 0).trans rfl; have hcz21_1 : w20.cell? ⟨gb129, 1, none⟩ = some (.int .i64 t130) := (blk_cell BK129.out 1).trans rfl; have hcz21_2 : w20.cell? ⟨gb129, 2, none⟩ = some (.string (⟨#[]⟩ : ByteArray)) := (blk_cell BK129.out 2).trans rfl; have hfz21_0 := blk_frozen BK129.out 0; have hfz21_1 := blk_frozen BK129.out 1; have hfz21_2 := blk_frozen BK129.out 2) | (go_at_call 32; (with_reducible refine (edits_scanner_byte.calls gB t135 t136 t137 10 t138 t139 true w _ ?side1 ?side2 A10.out).mono ?_); (case side1 => repeat (first | (with_reducible first | exact HI1.out | apply IsS65.alloc | apply IsS65.drewN | apply IsS65.drew | apply IsS65.set_0 | apply IsS65.set_1 | apply IsS65.set_2 | refine IsS65.far ?_ NB1_129.out _) | exact HI1.out)); (case side2 => repeat (first | (with_reducible first | exact HB.out | apply below_alloc | apply pw_below_drewN | apply below_drew1 | refine below_set ?_ (IsS65.ge HI1.out) | refine below_set ?_ GE129.out) | exact HB.out)); rintro e w22 ⟨rfl, hi, hb, hk⟩; have n0_ := Aside0.mk (Kd.R_mono (Kd.R_keep (IsS65.apart (show IsS65 w _ gB t135 t136 t137 from by repeat (first | (with_reducible first | exact HI1.out | apply IsS65.alloc | apply IsS65.drewN | apply IsS65.drew | apply IsS65.set_0 | apply IsS65.set_1 | apply IsS65.set_2 | refine IsS65.far ?_ NB1_129.out _) | exact HI1.out)) (by (with_reducible repeat (first | apply Kd.R_alloc | apply Kd.R_drewN | apply Kd.R_drew)); exact (Kd.R_mono (Kd.R_far (p := ⟨gb129, 2, none⟩) (Kd.R_mono HO_6.out (fun k_ hk => (⟨hk, hk.2⟩ : _ ∧ k_ ≠ gb129))) (fun _ hk => hk.2) (.string t134)) (fun _ h_ => h_.1))) (by decide)) hk (fun _ h => h.2)) (fun _ h => h.1)); have n1_ := Aside0.mk (KeepBut.blk hk (g' := gb129) (o := .cells #[.int .i64 t125, .int .i64 t130, .string t134] 42 (0, 0)) (by (with_reducible repeat (first | refine blk_drewN ?_ _ | refine blk_drew ?_ | refine blk_alloc ?_ _)); refine blk_put (cs := #[.int .i64 t125, .int .i64 t130, .string (⟨#[]⟩ : ByteArray)]) ?_ 2 _ rfl; (with_reducible repeat (first | refine blk_drewN ?_ _ | refine blk_drew ?_ | refine blk_alloc ?_ _)); exact BK129.out) NB129_1.out (by simp)); have n2_ := Aside0.mk (KeepBut.trans (by repeat (first | (with_reducible first | exact HK.out | apply KeepBut.set_ | apply keep_drewN | apply keep_drew | apply keep_alloc | refine keep_far ?_ GW129.out _) | exact HK.out)) hk (.inl rfl)); have n3_ := Aside0.mk (hb); have n4_ := Aside0.mk (hi); clear HO_6; clear BK129; clear HK; clear HB; clear HI1; have HO_6 := n0_; have BK129 := n1_; have HK := n2_; have HB := n3_; have HI1 := n4_; clear n0_ n1_ n2_ n3_ n4_; (try clear hb); (try clear hb2); (try clear hk); (try clear hi); obtain ⟨HGz23, hgz23⟩ := HI1.out; have hcz23_0 := cellS65_0 HGz23; have hcz23_1 := cellS65_1 HGz23; have hcz23_2 := cellS65_2 HGz23; have hfz23_0 := blk_frozen HGz23 0; have hfz23_1 := blk_frozen HGz23 1; have hfz23_2 := blk_frozen HGz23 2; clear HGz23 hgz23))
            repeat (go_quiet (first | (go_at_call 30; (with_reducible refine (edits_scanner_number.calls k1 gB x2000_1 x2001_1 x2002_1 44 t125 t126 t127 t128 w _ ?side1 ?side2 A7.out).mono ?_); (case side1 => repeat (first | (with_reducible first | exact HI1.out | apply IsS65.alloc | apply IsS65.drewN | apply IsS65.drew | apply IsS65.set_0 | apply IsS65.set_1 | apply IsS65.set_2) | exact HI1.out)); (case side2 => repeat (first | (with_reducible first | exact HB.out | apply below_alloc | apply pw_below_drewN | apply below_drew1 | refine below_set ?_ (IsS65.ge HI1.out)) | exact HB.out)); rintro e w14 ⟨rfl, hi, hb, hk⟩; have n0_ := Aside0.mk (Kd.R_mono (Kd.R_keep (IsS65.apart (show IsS65 w _ gB x2000_1 x2001_1 x2002_1 from by repeat (first | (with_reducible first | exact HI1.out | apply IsS65.alloc | apply IsS65.drewN | apply IsS65.drew | apply IsS65.set_0 | apply IsS65.set_1 | apply IsS65.set_2) | exact HI1.out)) (by (with_reducible repeat (first | apply Kd.R_alloc | apply Kd.R_drewN | apply Kd.R_drew)); exact HO_6.out) (by decide)) hk (fun _ h => h.2)) (fun _ h => h.1)); have n1_ := Aside0.mk (KeepBut.trans (by repeat (first | (with_reducible first | exact HK.out | apply KeepBut.set_ | apply keep_drewN | apply keep_drew | apply keep_alloc) | exact HK.out)) hk (.inl rfl)); have n2_ := Aside0.mk (hb); have n3_ := Aside0.mk (hi); clear HO_6; clear HK; clear HB; clear HI1; have HO_6 := n0_; have HK := n1_; have HB := n2_; have HI1 := n3_; clear n0_ n1_ n2_ n3_; (try clear hb); (try clear hb2); (try clear hk); (try clear hi)) | ((with_reducible refine gate_dst (N := 7) rfl ?_); refine box_event ?hg (N := 7) ?hd (cs := #[.int .i64 0, .int .i64 0, .string (⟨#[]⟩ : ByteArray)]) (t := 42) ?hr ?_; (case hd => rfl); (case hg => rfl); (case hr => first | (go_simp; done) | (go_simp; rfl)); intro gb129 hg w15 hbox hb; have n0_ := Aside0.mk (Kd.R_below (Kd.R_elderB (by (with_reducible repeat (first | apply Kd.R_alloc | apply Kd.R_drewN | apply Kd.R_drew)); exact HO_6.out) gb129 (Nat.le_of_eq hg.symm)) hb); have n1_ := Aside0.mk (IsS65.below (by repeat (first | (with_reducible first | exact HI1.out | apply IsS65.alloc | apply IsS65.drewN | apply IsS65.drew | apply IsS65.set_0 | apply IsS65.set_1 | apply IsS65.set_2) | exact HI1.out)) hb); have n2_ := Aside0.mk (KeepBut.trans (by repeat (first | (with_reducible first | exact HK.out | apply KeepBut.set_ | apply keep_drewN | apply keep_drew | apply keep_alloc) | exact HK.out)) (KeepBut.of_below hb gB none) (.inl rfl)); have n3_ := Aside0.mk (below_step (by repeat (first | (with_reducible first | exact HB.out | apply below_alloc | apply pw_below_drewN | apply below_drew1 | refine below_set ?_ (IsS65.ge HI1.out)) | exact HB.out)) hb); have n4_ := Aside0.mk (hbox); have n5_ := Aside0.mk ((by rw [hg]; exact (keep_size (w := wB) (g := gB) (row := none) (by repeat (first | (with_reducible first | exact HK.out | apply KeepBut.set_ | apply keep_drewN | apply keep_drew | apply keep_alloc) | exact HK.out))) : wB.heap.size ≤ gb129)); have n6_ := Aside0.mk ((Nat.le_trans HW0.out (by rw [hg]; exact (keep_size (w := wB) (g := gB) (row := none) (by repeat (first | (with_reducible first | exact HK.out | apply KeepBut.set_ | apply keep_drewN | apply keep_drew | apply keep_alloc) | exact HK.out))) : wB.heap.size ≤ gb129) : w.heap.size ≤ gb129)); have n7_ := Aside0.mk ((by rw [hg]; exact Nat.ne_of_lt (IsS65.lt (show IsS65 w _ gB t126 t127 t128 from by repeat (first | (with_reducible first | exact HI1.out | apply IsS65.alloc | apply IsS65.drewN | apply IsS65.drew | apply IsS65.set_0 | apply IsS65.set_1 | apply IsS65.set_2) | exact HI1.out))) : gB ≠ gb129)); have n8_ := Aside0.mk ((by rw [hg]; exact Nat.ne_of_gt (IsS65.lt (show IsS65 w _ gB t126 t127 t128 from by repeat (first | (with_reducible first | exact HI1.out | apply IsS65.alloc | apply IsS65.drewN | apply IsS65.drew | apply IsS65.set_0 | apply IsS65.set_1 | apply IsS65.set_2) | exact HI1.out))) : gb129 ≠ gB)); clear HO_6; clear HI1; clear HK; clear HB; have HO_6 := n0_; have HI1 := n1_; have HK := n2_; have HB := n3_; have BK129 := n4_; have GW129 := n5_; have GE129 := n6_; have NB1_129 := n7_; have NB129_1 := n8_; clear n0_ n1_ n2_ n3_ n4_ n5_ n6_ n7_ n8_; clear hb hbox hg; have hnb16 := NB129_1.out; have hnc16 := NB1_129.out; have hcz17_0 : w15.cell? ⟨gb129, 0, none⟩ = some (.int .i64 0) := (blk_cell BK129.out 0).trans rfl; have hcz17_1 : w15.cell? ⟨gb129, 1, none⟩ = some (.int .i64 0) := (blk_cell BK129.out 1).trans rfl; have hcz17_2 : w15.cell? ⟨gb129, 2, none⟩ = some (.string (⟨#[]⟩ : ByteArray)) := (blk_cell BK129.out 2).trans rfl; have hfz17_0 := blk_frozen BK129.out 0; have hfz17_1 := blk_frozen BK129.out 1; have hfz17_2 := blk_frozen BK129.out 2) | (go_at_call 30; (with_reducible refine (edits_scanner_number.calls k1 gB t126 t127 t128 32 t130 t131 t132 t133 w _ ?side1 ?side2 A8.out).mono ?_); (case side1 => repeat (first | (with_reducible first | exact HI1.out | apply IsS65.alloc | apply IsS65.drewN | apply IsS65.drew | apply IsS65.set_0 | apply IsS65.set_1 | apply IsS65.set_2 | refine IsS65.far ?_ NB1_129.out _) | exact HI1.out)); (case side2 => repeat (first | (with_reducible first | exact HB.out | apply below_alloc | apply pw_below_drewN | apply below_drew1 | refine below_set ?_ (IsS65.ge HI1.out) | refine below_set ?_ GE129.out) | exact HB.out)); rintro e w18 ⟨rfl, hi, hb, hk⟩; have n0_ := Aside0.mk (Kd.R_mono (Kd.R_keep (IsS65.apart (show IsS65 w _ gB t126 t127 t128 from by repeat (first | (with_reducible first | exact HI1.out | apply IsS65.alloc | apply IsS65.drewN | apply IsS65.drew | apply IsS65.set_0 | apply IsS65.set_1 | apply IsS65.set_2 | refine IsS65.far ?_ NB1_129.out _) | exact HI1.out)) (by (with_reducible repeat (first | apply Kd.R_alloc | apply Kd.R_drewN | apply Kd.R_drew)); exact (Kd.R_mono (Kd.R_far (p := ⟨gb129, 2, none⟩) (Kd.R_far (p := ⟨gb129, 1, none⟩) (Kd.R_far (p := ⟨gb129, 0, none⟩) (Kd.R_mono HO_6.out (fun k_ hk => (⟨hk, hk.2⟩ : _ ∧ k_ ≠ gb129))) (fun _ hk => hk.2) (.int .i64 t125)) (fun _ hk => hk.2) (.int .i64 0)) (fun _ hk => hk.2) (.string (⟨#[]⟩ : ByteArray))) (fun _ h_ => h_.1))) (by decide)) hk (fun _ h => h.2)) (fun _ h => h.1)); have n1_ := Aside0.mk (KeepBut.blk hk (g' := gb129) (o := .cells #[.int .i64 t125, .int .i64 0, .string (⟨#[]⟩ : ByteArray)] 42 (0, 0)) (by (with_reducible repeat (first | refine blk_drewN ?_ _ | refine blk_drew ?_ | refine blk_alloc ?_ _)); refine blk_put (cs := #[.int .i64 t125, .int .i64 0, .string (⟨#[]⟩ : ByteArray)]) ?_ 2 _ rfl; (with_reducible repeat (first | refine blk_drewN ?_ _ | refine blk_drew ?_ | refine blk_alloc ?_ _)); refine blk_put (cs := #[.int .i64 t125, .int .i64 0, .string (⟨#[]⟩ : ByteArray)]) ?_ 1 _ rfl; (with_reducible repeat (first | refine blk_drewN ?_ _ | refine blk_drew ?_ | refine blk_alloc ?_ _)); refine blk_put (cs := #[.int .i64 0, .int .i64 0, .string (⟨#[]⟩ : ByteArray)]) ?_ 0 _ rfl; (with_reducible repeat (first | refine blk_drewN ?_ _ | refine blk_drew ?_ | refine blk_alloc ?_ _)); exact BK129.out) NB129_1.out (by simp)); have n2_ := Aside0.mk (KeepBut.trans (by repeat (first | (with_reducible first | exact HK.out | apply KeepBut.set_ | apply keep_drewN | apply keep_drew | apply keep_alloc | refine keep_far ?_ GW129.out _) | exact HK.out)) hk (.inl rfl)); have n3_ := Aside0.mk (hb); have n4_ := Aside0.mk (hi); clear HO_6; clear BK129; clear HK; clear HB; clear HI1; have HO_6 := n0_; have BK129 := n1_; have HK := n2_; have HB := n3_; have HI1 := n4_; clear n0_ n1_ n2_ n3_ n4_; (try clear hb); (try clear hb2); (try clear hk); (try clear hi); have hcz19_0 : w18.cell? ⟨gb129, 0, none⟩ = some (.int .i64 t125) := (blk_cell BK129.out 0).trans rfl; have hcz19_1 : w18.cell? ⟨gb129, 1, none⟩ = some (.int .i64 0) := (blk_cell BK129.out 1).trans rfl; have hcz19_2 : w18.cell? ⟨gb129, 2, none⟩ = some (.string (⟨#[]⟩ : ByteArray)) := (blk_cell BK129.out 2).trans rfl; have hfz19_0 := blk_frozen BK129.out 0; have hfz19_1 := blk_frozen BK129.out 1; have hfz19_2 := blk_frozen BK129.out 2) | (go_at_call 31; (with_reducible refine (edits_scanner_quoted.calls k1 gB t131 t132 t133 t134 t135 t136 t137 w _ ?side1 ?side2 A9.out).mono ?_); (case side1 => repeat (first | (with_reducible first | exact HI1.out | apply IsS65.alloc | apply IsS65.drewN | apply IsS65.drew | apply IsS65.set_0 | apply IsS65.set_1 | apply IsS65.set_2 | refine IsS65.far ?_ NB1_129.out _) | exact HI1.out)); (case side2 => repeat (first | (with_reducible first | exact HB.out | apply below_alloc | apply pw_below_drewN | apply below_drew1 | refine below_set ?_ (IsS65.ge HI1.out) | refine below_set ?_ GE129.out) | exact HB.out)); rintro e w20 ⟨rfl, hi, hb, hk⟩; have n0_ := Aside0.mk (Kd.R_mono (Kd.R_keep (IsS65.apart (show IsS65 w _ gB t131 t132 t133 from by repeat (first | (with_reducible first | exact HI1.out | apply IsS65.alloc | apply IsS65.drewN | apply IsS65.drew | apply IsS65.set_0 | apply IsS65.set_1 | apply IsS65.set_2 | refine IsS65.far ?_ NB1_129.out _) | exact HI1.out)) (by (with_reducible repeat (first | apply Kd.R_alloc | apply Kd.R_drewN | apply Kd.R_drew)); exact (Kd.R_mono (Kd.R_far (p := ⟨gb129, 1, none⟩) (Kd.R_mono HO_6.out (fun k_ hk => (⟨hk, hk.2⟩ : _ ∧ k_ ≠ gb129))) (fun _ hk => hk.2) (.int .i64 t130)) (fun _ h_ => h_.1))) (by decide)) hk (fun _ h => h.2)) (fun _ h => h.1)); have n1_ := Aside0.mk (KeepBut.blk hk (g' := gb129) (o := .cells #[.int .i64 t125, .int .i64 t130, .string (⟨#[]⟩ : ByteArray)] 42 (0, 0)) (by (with_reducible repeat (first | refine blk_drewN ?_ _ | refine blk_drew ?_ | refine blk_alloc ?_ _)); refine blk_put (cs := #[.int .i64 t125, .int .i64 0, .string (⟨#[]⟩ : ByteArray)]) ?_ 1 _ rfl; (with_reducible repeat (first | refine blk_drewN ?_ _ | refine blk_drew ?_ | refine blk_alloc ?_ _)); exact BK129.out) NB129_1.out (by simp)); have n2_ := Aside0.mk (KeepBut.trans (by repeat (first | (with_reducible first | exact HK.out | apply KeepBut.set_ | apply keep_drewN | apply keep_drew | apply keep_alloc | refine keep_far ?_ GW129.out _) | exact HK.out)) hk (.inl rfl)); have n3_ := Aside0.mk (hb); have n4_ := Aside0.mk (hi); clear HO_6; clear BK129; clear HK; clear HB; clear HI1; have HO_6 := n0_; have BK129 := n1_; have HK := n2_; have HB := n3_; have HI1 := n4_; clear n0_ n1_ n2_ n3_ n4_; (try clear hb); (try clear hb2); (try clear hk); (try clear hi); have hcz21_0 : w20.cell? ⟨gb129, 0, none⟩ = some (.int .i64 t125) := (blk_cell BK129.out 0).trans rfl; have hcz21_1 : w20.cell? ⟨gb129, 1, none⟩ = some (.int .i64 t130) := (blk_cell BK129.out 1).trans rfl; have hcz21_2 : w20.cell? ⟨gb129, 2, none⟩ = some (.string (⟨#[]⟩ : ByteArray)) := (blk_cell BK129.out 2).trans rfl; have hfz21_0 := blk_frozen BK129.out 0; have hfz21_1 := blk_frozen BK129.out 1; have hfz21_2 := blk_frozen BK129.out 2) | (go_at_call 32; (with_reducible refine (edits_scanner_byte.calls gB t135 t136 t137 10 t138 t139 true w _ ?side1 ?side2 A10.out).mono ?_); (case side1 => repeat (first | (with_reducible first | exact HI1.out | apply IsS65.alloc | apply IsS65.drewN | apply IsS65.drew | apply IsS65.set_0 | apply IsS65.set_1 | apply IsS65.set_2 | refine IsS65.far ?_ NB1_129.out _) | exact HI1.out)); (case side2 => repeat (first | (with_reducible first | exact HB.out | apply below_alloc | apply pw_below_drewN | apply below_drew1 | refine below_set ?_ (IsS65.ge HI1.out) | refine below_set ?_ GE129.out) | exact HB.out)); rintro e w22 ⟨rfl, hi, hb, hk⟩; have n0_ := Aside0.mk (Kd.R_mono (Kd.R_keep (IsS65.apart (show IsS65 w _ gB t135 t136 t137 from by repeat (first | (with_reducible first | exact HI1.out | apply IsS65.alloc | apply IsS65.drewN | apply IsS65.drew | apply IsS65.set_0 | apply IsS65.set_1 | apply IsS65.set_2 | refine IsS65.far ?_ NB1_129.out _) | exact HI1.out)) (by (with_reducible repeat (first | apply Kd.R_alloc | apply Kd.R_drewN | apply Kd.R_drew)); exact (Kd.R_mono (Kd.R_far (p := ⟨gb129, 2, none⟩) (Kd.R_mono HO_6.out (fun k_ hk => (⟨hk, hk.2⟩ : _ ∧ k_ ≠ gb129))) (fun _ hk => hk.2) (.string t134)) (fun _ h_ => h_.1))) (by decide)) hk (fun _ h => h.2)) (fun _ h => h.1)); have n1_ := Aside0.mk (KeepBut.blk hk (g' := gb129) (o := .cells #[.int .i64 t125, .int .i64 t130, .string t134] 42 (0, 0)) (by (with_reducible repeat (first | refine blk_drewN ?_ _ | refine blk_drew ?_ | refine blk_alloc ?_ _)); refine blk_put (cs := #[.int .i64 t125, .int .i64 t130, .string (⟨#[]⟩ : ByteArray)]) ?_ 2 _ rfl; (with_reducible repeat (first | refine blk_drewN ?_ _ | refine blk_drew ?_ | refine blk_alloc ?_ _)); exact BK129.out) NB129_1.out (by simp)); have n2_ := Aside0.mk (KeepBut.trans (by repeat (first | (with_reducible first | exact HK.out | apply KeepBut.set_ | apply keep_drewN | apply keep_drew | apply keep_alloc | refine keep_far ?_ GW129.out _) | exact HK.out)) hk (.inl rfl)); have n3_ := Aside0.mk (hb); have n4_ := Aside0.mk (hi); clear HO_6; clear BK129; clear HK; clear HB; clear HI1; have HO_6 := n0_; have BK129 := n1_; have HK := n2_; have HB := n3_; have HI1 := n4_; clear n0_ n1_ n2_ n3_ n4_; (try clear hb); (try clear hb2); (try clear hk); (try clear hi); obtain ⟨HGz23, hgz23⟩ := HI1.out; have hcz23_0 := cellS65_0 HGz23; have hcz23_1 := cellS65_1 HGz23; have hcz23_2 := cellS65_2 HGz23; have hfz23_0 := blk_frozen HGz23 0; have hfz23_1 := blk_frozen HGz23 1; have hfz23_2 := blk_frozen HGz23 2; clear HGz23 hgz23)); try go_wp2_with (first | (go_at_call 30; (with_reducible refine (edits_scanner_number.calls k1 gB x2000_1 x2001_1 x2002_1 44 t125 t126 t127 t128 w _ ?side1 ?side2 A7.out).mono ?_); (case side1 => repeat (first | (with_reducible first | exact HI1.out | apply IsS65.alloc | apply IsS65.drewN | apply IsS65.drew | apply IsS65.set_0 | apply IsS65.set_1 | apply IsS65.set_2) | exact HI1.out)); (case side2 => repeat (first | (with_reducible first | exact HB.out | apply below_alloc | apply pw_below_drewN | apply below_drew1 | refine below_set ?_ (IsS65.ge HI1.out)) | exact HB.out)); rintro e w14 ⟨rfl, hi, hb, hk⟩; have n0_ := Aside0.mk (Kd.R_mono (Kd.R_keep (IsS65.apart (show IsS65 w _ gB x2000_1 x2001_1 x2002_1 from by repeat (first | (with_reducible first | exact HI1.out | apply IsS65.alloc | apply IsS65.drewN | apply IsS65.drew | apply IsS65.set_0 | apply IsS65.set_1 | apply IsS65.set_2) | exact HI1.out)) (by (with_reducible repeat (first | apply Kd.R_alloc | apply Kd.R_drewN | apply Kd.R_drew)); exact HO_6.out) (by decide)) hk (fun _ h => h.2)) (fun _ h => h.1)); have n1_ := Aside0.mk (KeepBut.trans (by repeat (first | (with_reducible first | exact HK.out | apply KeepBut.set_ | apply keep_drewN | apply keep_drew | apply keep_alloc) | exact HK.out)) hk (.inl rfl)); have n2_ := Aside0.mk (hb); have n3_ := Aside0.mk (hi); clear HO_6; clear HK; clear HB; clear HI1; have HO_6 := n0_; have HK := n1_; have HB := n2_; have HI1 := n3_; clear n0_ n1_ n2_ n3_; (try clear hb); (try clear hb2); (try clear hk); (try clear hi)) | ((with_reducible refine gate_dst (N := 7) rfl ?_); refine box_event ?hg (N := 7) ?hd (cs := #[.int .i64 0, .int .i64 0, .string (⟨#[]⟩ : ByteArray)]) (t := 42) ?hr ?_; (case hd => rfl); (case hg => rfl); (case hr => first | (go_simp; done) | (go_simp; rfl)); intro gb129 hg w15 hbox hb; have n0_ := Aside0.mk (Kd.R_below (Kd.R_elderB (by (with_reducible repeat (first | apply Kd.R_alloc | apply Kd.R_drewN | apply Kd.R_drew)); exact HO_6.out) gb129 (Nat.le_of_eq hg.symm)) hb); have n1_ := Aside0.mk (IsS65.below (by repeat (first | (with_reducible first | exact HI1.out | apply IsS65.alloc | apply IsS65.drewN | apply IsS65.drew | apply IsS65.set_0 | apply IsS65.set_1 | apply IsS65.set_2) | exact HI1.out)) hb); have n2_ := Aside0.mk (KeepBut.trans (by repeat (first | (with_reducible first | exact HK.out | apply KeepBut.set_ | apply keep_drewN | apply keep_drew | apply keep_alloc) | exact HK.out)) (KeepBut.of_below hb gB none) (.inl rfl)); have n3_ := Aside0.mk (below_step (by repeat (first | (with_reducible first | exact HB.out | apply below_alloc | apply pw_below_drewN | apply below_drew1 | refine below_set ?_ (IsS65.ge HI1.out)) | exact HB.out)) hb); have n4_ := Aside0.mk (hbox); have n5_ := Aside0.mk ((by rw [hg]; exact (keep_size (w := wB) (g := gB) (row := none) (by repeat (first | (with_reducible first | exact HK.out | apply KeepBut.set_ | apply keep_drewN | apply keep_drew | apply keep_alloc) | exact HK.out))) : wB.heap.size ≤ gb129)); have n6_ := Aside0.mk ((Nat.le_trans HW0.out (by rw [hg]; exact (keep_size (w := wB) (g := gB) (row := none) (by repeat (first | (with_reducible first | exact HK.out | apply KeepBut.set_ | apply keep_drewN | apply keep_drew | apply keep_alloc) | exact HK.out))) : wB.heap.size ≤ gb129) : w.heap.size ≤ gb129)); have n7_ := Aside0.mk ((by rw [hg]; exact Nat.ne_of_lt (IsS65.lt (show IsS65 w _ gB t126 t127 t128 from by repeat (first | (with_reducible first | exact HI1.out | apply IsS65.alloc | apply IsS65.drewN | apply IsS65.drew | apply IsS65.set_0 | apply IsS65.set_1 | apply IsS65.set_2) | exact HI1.out))) : gB ≠ gb129)); have n8_ := Aside0.mk ((by rw [hg]; exact Nat.ne_of_gt (IsS65.lt (show IsS65 w _ gB t126 t127 t128 from by repeat (first | (with_reducible first | exact HI1.out | apply IsS65.alloc | apply IsS65.drewN | apply IsS65.drew | apply IsS65.set_0 | apply IsS65.set_1 | apply IsS65.set_2) | exact HI1.out))) : gb129 ≠ gB)); clear HO_6; clear HI1; clear HK; clear HB; have HO_6 := n0_; have HI1 := n1_; have HK := n2_; have HB := n3_; have BK129 := n4_; have GW129 := n5_; have GE129 := n6_; have NB1_129 := n7_; have NB129_1 := n8_; clear n0_ n1_ n2_ n3_ n4_ n5_ n6_ n7_ n8_; clear hb hbox hg; have hnb16 := NB129_1.out; have hnc16 := NB1_129.out; have hcz17_0 : w15.cell? ⟨gb129, 0, none⟩ = some (.int .i64 0) := (blk_cell BK129.out 0).trans rfl; have hcz17_1 : w15.cell? ⟨gb129, 1, none⟩ = some (.int .i64 0) := (blk_cell BK129.out 1).trans rfl; have hcz17_2 : w15.cell? ⟨gb129, 2, none⟩ = some (.string (⟨#[]⟩ : ByteArray)) := (blk_cell BK129.out 2).trans rfl; have hfz17_0 := blk_frozen BK129.out 0; have hfz17_1 := blk_frozen BK129.out 1; have hfz17_2 := blk_frozen BK129.out 2) | (go_at_call 30; (with_reducible refine (edits_scanner_number.calls k1 gB t126 t127 t128 32 t130 t131 t132 t133 w _ ?side1 ?side2 A8.out).mono ?_); (case side1 => repeat (first | (with_reducible first | exact HI1.out | apply IsS65.alloc | apply IsS65.drewN | apply IsS65.drew | apply IsS65.set_0 | apply IsS65.set_1 | apply IsS65.set_2 | refine IsS65.far ?_ NB1_129.out _) | exact HI1.out)); (case side2 => repeat (first | (with_reducible first | exact HB.out | apply below_alloc | apply pw_below_drewN | apply below_drew1 | refine below_set ?_ (IsS65.ge HI1.out) | refine below_set ?_ GE129.out) | exact HB.out)); rintro e w18 ⟨rfl, hi, hb, hk⟩; have n0_ := Aside0.mk (Kd.R_mono (Kd.R_keep (IsS65.apart (show IsS65 w _ gB t126 t127 t128 from by repeat (first | (with_reducible first | exact HI1.out | apply IsS65.alloc | apply IsS65.drewN | apply IsS65.drew | apply IsS65.set_0 | apply IsS65.set_1 | apply IsS65.set_2 | refine IsS65.far ?_ NB1_129.out _) | exact HI1.out)) (by (with_reducible repeat (first | apply Kd.R_alloc | apply Kd.R_drewN | apply Kd.R_drew)); exact (Kd.R_mono (Kd.R_far (p := ⟨gb129, 2, none⟩) (Kd.R_far (p := ⟨gb129, 1, none⟩) (Kd.R_far (p := ⟨gb129, 0, none⟩) (Kd.R_mono HO_6.out (fun k_ hk => (⟨hk, hk.2⟩ : _ ∧ k_ ≠ gb129))) (fun _ hk => hk.2) (.int .i64 t125)) (fun _ hk => hk.2) (.int .i64 0)) (fun _ hk => hk.2) (.string (⟨#[]⟩ : ByteArray))) (fun _ h_ => h_.1))) (by decide)) hk (fun _ h => h.2)) (fun _ h => h.1)); have n1_ := Aside0.mk (KeepBut.blk hk (g' := gb129) (o := .cells #[.int .i64 t125, .int .i64 0, .string (⟨#[]⟩ : ByteArray)] 42 (0, 0)) (by (with_reducible repeat (first | refine blk_drewN ?_ _ | refine blk_drew ?_ | refine blk_alloc ?_ _)); refine blk_put (cs := #[.int .i64 t125, .int .i64 0, .string (⟨#[]⟩ : ByteArray)]) ?_ 2 _ rfl; (with_reducible repeat (first | refine blk_drewN ?_ _ | refine blk_drew ?_ | refine blk_alloc ?_ _)); refine blk_put (cs := #[.int .i64 t125, .int .i64 0, .string (⟨#[]⟩ : ByteArray)]) ?_ 1 _ rfl; (with_reducible repeat (first | refine blk_drewN ?_ _ | refine blk_drew ?_ | refine blk_alloc ?_ _)); refine blk_put (cs := #[.int .i64 0, .int .i64 0, .string (⟨#[]⟩ : ByteArray)]) ?_ 0 _ rfl; (with_reducible repeat (first | refine blk_drewN ?_ _ | refine blk_drew ?_ | refine blk_alloc ?_ _)); exact BK129.out) NB129_1.out (by simp)); have n2_ := Aside0.mk (KeepBut.trans (by repeat (first | (with_reducible first | exact HK.out | apply KeepBut.set_ | apply keep_drewN | apply keep_drew | apply keep_alloc | refine keep_far ?_ GW129.out _) | exact HK.out)) hk (.inl rfl)); have n3_ := Aside0.mk (hb); have n4_ := Aside0.mk (hi); clear HO_6; clear BK129; clear HK; clear HB; clear HI1; have HO_6 := n0_; have BK129 := n1_; have HK := n2_; have HB := n3_; have HI1 := n4_; clear n0_ n1_ n2_ n3_ n4_; (try clear hb); (try clear hb2); (try clear hk); (try clear hi); have hcz19_0 : w18.cell? ⟨gb129, 0, none⟩ = some (.int .i64 t125) := (blk_cell BK129.out 0).trans rfl; have hcz19_1 : w18.cell? ⟨gb129, 1, none⟩ = some (.int .i64 0) := (blk_cell BK129.out 1).trans rfl; have hcz19_2 : w18.cell? ⟨gb129, 2, none⟩ = some (.string (⟨#[]⟩ : ByteArray)) := (blk_cell BK129.out 2).trans rfl; have hfz19_0 := blk_frozen BK129.out 0; have hfz19_1 := blk_frozen BK129.out 1; have hfz19_2 := blk_frozen BK129.out 2) | (go_at_call 31; (with_reducible refine (edits_scanner_quoted.calls k1 gB t131 t132 t133 t134 t135 t136 t137 w _ ?side1 ?side2 A9.out).mono ?_); (case side1 => repeat (first | (with_reducible first | exact HI1.out | apply IsS65.alloc | apply IsS65.drewN | apply IsS65.drew | apply IsS65.set_0 | apply IsS65.set_1 | apply IsS65.set_2 | refine IsS65.far ?_ NB1_129.out _) | exact HI1.out)); (case side2 => repeat (first | (with_reducible first | exact HB.out | apply below_alloc | apply pw_below_drewN | apply below_drew1 | refine below_set ?_ (IsS65.ge HI1.out) | refine below_set ?_ GE129.out) | exact HB.out)); rintro e w20 ⟨rfl, hi, hb, hk⟩; have n0_ := Aside0.mk (Kd.R_mono (Kd.R_keep (IsS65.apart (show IsS65 w _ gB t131 t132 t133 from by repeat (first | (with_reducible first | exact HI1.out | apply IsS65.alloc | apply IsS65.drewN | apply IsS65.drew | apply IsS65.set_0 | apply IsS65.set_1 | apply IsS65.set_2 | refine IsS65.far ?_ NB1_129.out _) | exact HI1.out)) (by (with_reducible repeat (first | apply Kd.R_alloc | apply Kd.R_drewN | apply Kd.R_drew)); exact (Kd.R_mono (Kd.R_far (p := ⟨gb129, 1, none⟩) (Kd.R_mono HO_6.out (fun k_ hk => (⟨hk, hk.2⟩ : _ ∧ k_ ≠ gb129))) (fun _ hk => hk.2) (.int .i64 t130)) (fun _ h_ => h_.1))) (by decide)) hk (fun _ h => h.2)) (fun _ h => h.1)); have n1_ := Aside0.mk (KeepBut.blk hk (g' := gb129) (o := .cells #[.int .i64 t125, .int .i64 t130, .string (⟨#[]⟩ : ByteArray)] 42 (0, 0)) (by (with_reducible repeat (first | refine blk_drewN ?_ _ | refine blk_drew ?_ | refine blk_alloc ?_ _)); refine blk_put (cs := #[.int .i64 t125, .int .i64 0, .string (⟨#[]⟩ : ByteArray)]) ?_ 1 _ rfl; (with_reducible repeat (first | refine blk_drewN ?_ _ | refine blk_drew ?_ | refine blk_alloc ?_ _)); exact BK129.out) NB129_1.out (by simp)); have n2_ := Aside0.mk (KeepBut.trans (by repeat (first | (with_reducible first | exact HK.out | apply KeepBut.set_ | apply keep_drewN | apply keep_drew | apply keep_alloc | refine keep_far ?_ GW129.out _) | exact HK.out)) hk (.inl rfl)); have n3_ := Aside0.mk (hb); have n4_ := Aside0.mk (hi); clear HO_6; clear BK129; clear HK; clear HB; clear HI1; have HO_6 := n0_; have BK129 := n1_; have HK := n2_; have HB := n3_; have HI1 := n4_; clear n0_ n1_ n2_ n3_ n4_; (try clear hb); (try clear hb2); (try clear hk); (try clear hi); have hcz21_0 : w20.cell? ⟨gb129, 0, none⟩ = some (.int .i64 t125) := (blk_cell BK129.out 0).trans rfl; have hcz21_1 : w20.cell? ⟨gb129, 1, none⟩ = some (.int .i64 t130) := (blk_cell BK129.out 1).trans rfl; have hcz21_2 : w20.cell? ⟨gb129, 2, none⟩ = some (.string (⟨#[]⟩ : ByteArray)) := (blk_cell BK129.out 2).trans rfl; have hfz21_0 := blk_frozen BK129.out 0; have hfz21_1 := blk_frozen BK129.out 1; have hfz21_2 := blk_frozen BK129.out 2) | (go_at_call 32; (with_reducible refine (edits_scanner_byte.calls gB t135 t136 t137 10 t138 t139 true w _ ?side1 ?side2 A10.out).mono ?_); (case side1 => repeat (first | (with_reducible first | exact HI1.out | apply IsS65.alloc | apply IsS65.drewN | apply IsS65.drew | apply IsS65.set_0 | apply IsS65.set_1 | apply IsS65.set_2 | refine IsS65.far ?_ NB1_129.out _) | exact HI1.out)); (case side2 => repeat (first | (with_reducible first | exact HB.out | apply below_alloc | apply pw_below_drewN | apply below_drew1 | refine below_set ?_ (IsS65.ge HI1.out) | refine below_set ?_ GE129.out) | exact HB.out)); rintro e w22 ⟨rfl, hi, hb, hk⟩; have n0_ := Aside0.mk (Kd.R_mono (Kd.R_keep (IsS65.apart (show IsS65 w _ gB t135 t136 t137 from by repeat (first | (with_reducible first | exact HI1.out | apply IsS65.alloc | apply IsS65.drewN | apply IsS65.drew | apply IsS65.set_0 | apply IsS65.set_1 | apply IsS65.set_2 | refine IsS65.far ?_ NB1_129.out _) | exact HI1.out)) (by (with_reducible repeat (first | apply Kd.R_alloc | apply Kd.R_drewN | apply Kd.R_drew)); exact (Kd.R_mono (Kd.R_far (p := ⟨gb129, 2, none⟩) (Kd.R_mono HO_6.out (fun k_ hk => (⟨hk, hk.2⟩ : _ ∧ k_ ≠ gb129))) (fun _ hk => hk.2) (.string t134)) (fun _ h_ => h_.1))) (by decide)) hk (fun _ h => h.2)) (fun _ h => h.1)); have n1_ := Aside0.mk (KeepBut.blk hk (g' := gb129) (o := .cells #[.int .i64 t125, .int .i64 t130, .string t134] 42 (0, 0)) (by (with_reducible repeat (first | refine blk_drewN ?_ _ | refine blk_drew ?_ | refine blk_alloc ?_ _)); refine blk_put (cs := #[.int .i64 t125, .int .i64 t130, .string (⟨#[]⟩ : ByteArray)]) ?_ 2 _ rfl; (with_reducible repeat (first | refine blk_drewN ?_ _ | refine blk_drew ?_ | refine blk_alloc ?_ _)); exact BK129.out) NB129_1.out (by simp)); have n2_ := Aside0.mk (KeepBut.trans (by repeat (first | (with_reducible first | exact HK.out | apply KeepBut.set_ | apply keep_drewN | apply keep_drew | apply keep_alloc | refine keep_far ?_ GW129.out _) | exact HK.out)) hk (.inl rfl)); have n3_ := Aside0.mk (hb); have n4_ := Aside0.mk (hi); clear HO_6; clear BK129; clear HK; clear HB; clear HI1; have HO_6 := n0_; have BK129 := n1_; have HK := n2_; have HB := n3_; have HI1 := n4_; clear n0_ n1_ n2_ n3_ n4_; (try clear hb); (try clear hb2); (try clear hk); (try clear hi); obtain ⟨HGz23, hgz23⟩ := HI1.out; have hcz23_0 := cellS65_0 HGz23; have hcz23_1 := cellS65_1 HGz23; have hcz23_2 := cellS65_2 HGz23; have hfz23_0 := blk_frozen HGz23 0; have hfz23_1 := blk_frozen HGz23 1; have hfz23_2 := blk_frozen HGz23 2; clear HGz23 hgz23)))
            go_ret3
            exact ⟨wB, gB, _, HZ.out, by first | rfl | (simp [errW_none, errW_some] <;> rfl) | (simp [*, errW_none, errW_some] <;> rfl), by first | exact Kd.R_nil _ _ _ _ _ | exact Kd.N_nil _ _ _ _ _ | exact Kd.V_nil _ _ _ _ _ | exact Kd.Q_nil _ _ _ _ _ | exact Kd.S_nil _ _ _ _ _, by repeat (first | (with_reducible first | exact HI1.out | apply IsS65.alloc | apply IsS65.drewN | apply IsS65.drew | apply IsS65.set_0 | apply IsS65.set_1 | apply IsS65.set_2 | refine IsS65.far ?_ NB1_129.out _) | exact HI1.out), by repeat (first | (with_reducible first | exact HB.out | apply below_alloc | apply pw_below_drewN | apply below_drew1 | refine below_set ?_ (IsS65.ge HI1.out) | refine below_set ?_ GE129.out) | exact HB.out), by repeat (first | (with_reducible first | exact HK.out | apply KeepBut.set_ | apply keep_drewN | apply keep_drew | apply keep_alloc | refine keep_far ?_ GW129.out _) | exact HK.out)⟩
          · replace c11 := Bool.eq_false_iff.mpr c11
            subst c11
            have H1 : (if x6_1.length < 4398046511104 then (edits_ParseS.l0 k1 a0 (x6_1 ++ [(⟨t125, t130, t134⟩ : S42)]) t138 t139 false) else (none)) = some (r1, r2, r3, r4, r5, r6) := by rw [if_neg (show ¬ (false = true) by decide)] at H; exact H
            clear H
            have H := H1
            clear H1
            by_cases c24 : x6_1.length < 4398046511104
            · rw [if_pos c24] at H
              have LMc24 := Aside0.mk c24
              clear c24
              obtain ⟨y141, hy141⟩ : ∃ y_ : List (S42), y_ = (x6_1 ++ [(⟨t125, t130, t134⟩ : S42)]) := ⟨_, rfl⟩
              replace H : (edits_ParseS.l0 k1 a0 y141 t138 t139 false) = some (r1, r2, r3, r4, r5, r6) := by first | (rw [hy141]; with_reducible exact H) | (have H2_ := (Option.bind_some _ _).symm.trans H; rw [hy141]; with_reducible exact H2_) | (have H2_ := (Option.bind_some _ _).symm.trans H; with_reducible exact H2_) | with_reducible exact H | (rw [hy141]; exact H) | exact H
              have Ny141 := Aside0.mk hy141
              clear hy141
              have H' := Aside0.mk H
              clear H
              obtain ⟨HGz25, hgz25⟩ := HI1.out
              have hcz25_0 := cellS65_0 HGz25
              have hcz25_1 := cellS65_1 HGz25
              have hcz25_2 := cellS65_2 HGz25
              have hfz25_0 := blk_frozen HGz25 0
              have hfz25_1 := blk_frozen HGz25 1
              have hfz25_2 := blk_frozen HGz25 2
              clear HGz25 hgz25
              obtain ⟨Ao26, co26, eo26⟩ := Kd.R_slice HO_6.out
              subst eo26
              go_wp2_with (first | (go_at_call 30; (with_reducible refine (edits_scanner_number.calls k1 gB x2000_1 x2001_1 x2002_1 44 t125 t126 t127 t128 w _ ?side1 ?side2 A7.out).mono ?_); (case side1 => repeat (first | (with_reducible first | exact HI1.out | apply IsS65.alloc | apply IsS65.drewN | apply IsS65.drew | apply IsS65.set_0 | apply IsS65.set_1 | apply IsS65.set_2) | exact HI1.out)); (case side2 => repeat (first | (with_reducible first | exact HB.out | apply below_alloc | apply pw_below_drewN | apply below_drew1 | refine below_set ?_ (IsS65.ge HI1.out)) | exact HB.out)); rintro e w27 ⟨rfl, hi, hb, hk⟩; have n0_ := Aside0.mk (Kd.R_mono (Kd.R_keep (IsS65.apart (show IsS65 w _ gB x2000_1 x2001_1 x2002_1 from by repeat (first | (with_reducible first | exact HI1.out | apply IsS65.alloc | apply IsS65.drewN | apply IsS65.drew | apply IsS65.set_0 | apply IsS65.set_1 | apply IsS65.set_2) | exact HI1.out)) (by (with_reducible repeat (first | apply Kd.R_alloc | apply Kd.R_drewN | apply Kd.R_drew)); exact HO_6.out) (by decide)) hk (fun _ h => h.2)) (fun _ h => h.1)); have n1_ := Aside0.mk (KeepBut.trans (by repeat (first | (with_reducible first | exact HK.out | apply KeepBut.set_ | apply keep_drewN | apply keep_drew | apply keep_alloc) | exact HK.out)) hk (.inl rfl)); have n2_ := Aside0.mk (hb); have n3_ := Aside0.mk (hi); clear HO_6; clear HK; clear HB; clear HI1; have HO_6 := n0_; have HK := n1_; have HB := n2_; have HI1 := n3_; clear n0_ n1_ n2_ n3_; (try clear hb); (try clear hb2); (try clear hk); (try clear hi)) | ((with_reducible refine gate_dst (N := 7) rfl ?_); refine box_event ?hg (N := 7) ?hd (cs := #[.int .i64 0, .int .i64 0, .string (⟨#[]⟩ : ByteArray)]) (t := 42) ?hr ?_; (case hd => rfl); (case hg => rfl); (case hr => first | (go_simp; done) | (go_simp; rfl)); intro gb129 hg w28 hbox hb; have n0_ := Aside0.mk (Kd.R_below (Kd.R_elderB (by (with_reducible repeat (first | apply Kd.R_alloc | apply Kd.R_drewN | apply Kd.R_drew)); exact HO_6.out) gb129 (Nat.le_of_eq hg.symm)) hb); have n1_ := Aside0.mk (IsS65.below (by repeat (first | (with_reducible first | exact HI1.out | apply IsS65.alloc | apply IsS65.drewN | apply IsS65.drew | apply IsS65.set_0 | apply IsS65.set_1 | apply IsS65.set_2) | exact HI1.out)) hb); have n2_ := Aside0.mk (KeepBut.trans (by repeat (first | (with_reducible first | exact HK.out | apply KeepBut.set_ | apply keep_drewN | apply keep_drew | apply keep_alloc) | exact HK.out)) (KeepBut.of_below hb gB none) (.inl rfl)); have n3_ := Aside0.mk (below_step (by repeat (first | (with_reducible first | exact HB.out | apply below_alloc | apply pw_below_drewN | apply below_drew1 | refine below_set ?_ (IsS65.ge HI1.out)) | exact HB.out)) hb); have n4_ := Aside0.mk (hbox); have n5_ := Aside0.mk ((by rw [hg]; exact (keep_size (w := wB) (g := gB) (row := none) (by repeat (first | (with_reducible first | exact HK.out | apply KeepBut.set_ | apply keep_drewN | apply keep_drew | apply keep_alloc) | exact HK.out))) : wB.heap.size ≤ gb129)); have n6_ := Aside0.mk ((Nat.le_trans HW0.out (by rw [hg]; exact (keep_size (w := wB) (g := gB) (row := none) (by repeat (first | (with_reducible first | exact HK.out | apply KeepBut.set_ | apply keep_drewN | apply keep_drew | apply keep_alloc) | exact HK.out))) : wB.heap.size ≤ gb129) : w.heap.size ≤ gb129)); have n7_ := Aside0.mk ((by rw [hg]; exact Nat.ne_of_lt (IsS65.lt (show IsS65 w _ gB t126 t127 t128 from by repeat (first | (with_reducible first | exact HI1.out | apply IsS65.alloc | apply IsS65.drewN | apply IsS65.drew | apply IsS65.set_0 | apply IsS65.set_1 | apply IsS65.set_2) | exact HI1.out))) : gB ≠ gb129)); have n8_ := Aside0.mk ((by rw [hg]; exact Nat.ne_of_gt (IsS65.lt (show IsS65 w _ gB t126 t127 t128 from by repeat (first | (with_reducible first | exact HI1.out | apply IsS65.alloc | apply IsS65.drewN | apply IsS65.drew | apply IsS65.set_0 | apply IsS65.set_1 | apply IsS65.set_2) | exact HI1.out))) : gb129 ≠ gB)); clear HO_6; clear HI1; clear HK; clear HB; have HO_6 := n0_; have HI1 := n1_; have HK := n2_; have HB := n3_; have BK129 := n4_; have GW129 := n5_; have GE129 := n6_; have NB1_129 := n7_; have NB129_1 := n8_; clear n0_ n1_ n2_ n3_ n4_ n5_ n6_ n7_ n8_; clear hb hbox hg; have hnb29 := NB129_1.out; have hnc29 := NB1_129.out; have hcz30_0 : w28.cell? ⟨gb129, 0, none⟩ = some (.int .i64 0) := (blk_cell BK129.out 0).trans rfl; have hcz30_1 : w28.cell? ⟨gb129, 1, none⟩ = some (.int .i64 0) := (blk_cell BK129.out 1).trans rfl; have hcz30_2 : w28.cell? ⟨gb129, 2, none⟩ = some (.string (⟨#[]⟩ : ByteArray)) := (blk_cell BK129.out 2).trans rfl; have hfz30_0 := blk_frozen BK129.out 0; have hfz30_1 := blk_frozen BK129.out 1; have hfz30_2 := blk_frozen BK129.out 2) | (go_at_call 30; (with_reducible refine (edits_scanner_number.calls k1 gB t126 t127 t128 32 t130 t131 t132 t133 w _ ?side1 ?side2 A8.out).mono ?_); (case side1 => repeat (first | (with_reducible first | exact HI1.out | apply IsS65.alloc | apply IsS65.drewN | apply IsS65.drew | apply IsS65.set_0 | apply IsS65.set_1 | apply IsS65.set_2 | refine IsS65.far ?_ NB1_129.out _) | exact HI1.out)); (case side2 => repeat (first | (with_reducible first | exact HB.out | apply below_alloc | apply pw_below_drewN | apply below_drew1 | refine below_set ?_ (IsS65.ge HI1.out) | refine below_set ?_ GE129.out) | exact HB.out)); rintro e w31 ⟨rfl, hi, hb, hk⟩; have n0_ := Aside0.mk (Kd.R_mono (Kd.R_keep (IsS65.apart (show IsS65 w _ gB t126 t127 t128 from by repeat (first | (with_reducible first | exact HI1.out | apply IsS65.alloc | apply IsS65.drewN | apply IsS65.drew | apply IsS65.set_0 | apply IsS65.set_1 | apply IsS65.set_2 | refine IsS65.far ?_ NB1_129.out _) | exact HI1.out)) (by (with_reducible repeat (first | apply Kd.R_alloc | apply Kd.R_drewN | apply Kd.R_drew)); exact (Kd.R_mono (Kd.R_far (p := ⟨gb129, 2, none⟩) (Kd.R_far (p := ⟨gb129, 1, none⟩) (Kd.R_far (p := ⟨gb129, 0, none⟩) (Kd.R_mono HO_6.out (fun k_ hk => (⟨hk, hk.2⟩ : _ ∧ k_ ≠ gb129))) (fun _ hk => hk.2) (.int .i64 t125)) (fun _ hk => hk.2) (.int .i64 0)) (fun _ hk => hk.2) (.string (⟨#[]⟩ : ByteArray))) (fun _ h_ => h_.1))) (by decide)) hk (fun _ h => h.2)) (fun _ h => h.1)); have n1_ := Aside0.mk (KeepBut.blk hk (g' := gb129) (o := .cells #[.int .i64 t125, .int .i64 0, .string (⟨#[]⟩ : ByteArray)] 42 (0, 0)) (by (with_reducible repeat (first | refine blk_drewN ?_ _ | refine blk_drew ?_ | refine blk_alloc ?_ _)); refine blk_put (cs := #[.int .i64 t125, .int .i64 0, .string (⟨#[]⟩ : ByteArray)]) ?_ 2 _ rfl; (with_reducible repeat (first | refine blk_drewN ?_ _ | refine blk_drew ?_ | refine blk_alloc ?_ _)); refine blk_put (cs := #[.int .i64 t125, .int .i64 0, .string (⟨#[]⟩ : ByteArray)]) ?_ 1 _ rfl; (with_reducible repeat (first | refine blk_drewN ?_ _ | refine blk_drew ?_ | refine blk_alloc ?_ _)); refine blk_put (cs := #[.int .i64 0, .int .i64 0, .string (⟨#[]⟩ : ByteArray)]) ?_ 0 _ rfl; (with_reducible repeat (first | refine blk_drewN ?_ _ | refine blk_drew ?_ | refine blk_alloc ?_ _)); exact BK129.out) NB129_1.out (by simp)); have n2_ := Aside0.mk (KeepBut.trans (by repeat (first | (with_reducible first | exact HK.out | apply KeepBut.set_ | apply keep_drewN | apply keep_drew | apply keep_alloc | refine keep_far ?_ GW129.out _) | exact HK.out)) hk (.inl rfl)); have n3_ := Aside0.mk (hb); have n4_ := Aside0.mk (hi); clear HO_6; clear BK129; clear HK; clear HB; clear HI1; have HO_6 := n0_; have BK129 := n1_; have HK := n2_; have HB := n3_; have HI1 := n4_; clear n0_ n1_ n2_ n3_ n4_; (try clear hb); (try clear hb2); (try clear hk); (try clear hi); have hcz32_0 : w31.cell? ⟨gb129, 0, none⟩ = some (.int .i64 t125) := (blk_cell BK129.out 0).trans rfl; have hcz32_1 : w31.cell? ⟨gb129, 1, none⟩ = some (.int .i64 0) := (blk_cell BK129.out 1).trans rfl; have hcz32_2 : w31.cell? ⟨gb129, 2, none⟩ = some (.string (⟨#[]⟩ : ByteArray)) := (blk_cell BK129.out 2).trans rfl; have hfz32_0 := blk_frozen BK129.out 0; have hfz32_1 := blk_frozen BK129.out 1; have hfz32_2 := blk_frozen BK129.out 2) | (go_at_call 31; (with_reducible refine (edits_scanner_quoted.calls k1 gB t131 t132 t133 t134 t135 t136 t137 w _ ?side1 ?side2 A9.out).mono ?_); (case side1 => repeat (first | (with_reducible first | exact HI1.out | apply IsS65.alloc | apply IsS65.drewN | apply IsS65.drew | apply IsS65.set_0 | apply IsS65.set_1 | apply IsS65.set_2 | refine IsS65.far ?_ NB1_129.out _) | exact HI1.out)); (case side2 => repeat (first | (with_reducible first | exact HB.out | apply below_alloc | apply pw_below_drewN | apply below_drew1 | refine below_set ?_ (IsS65.ge HI1.out) | refine below_set ?_ GE129.out) | exact HB.out)); rintro e w33 ⟨rfl, hi, hb, hk⟩; have n0_ := Aside0.mk (Kd.R_mono (Kd.R_keep (IsS65.apart (show IsS65 w _ gB t131 t132 t133 from by repeat (first | (with_reducible first | exact HI1.out | apply IsS65.alloc | apply IsS65.drewN | apply IsS65.drew | apply IsS65.set_0 | apply IsS65.set_1 | apply IsS65.set_2 | refine IsS65.far ?_ NB1_129.out _) | exact HI1.out)) (by (with_reducible repeat (first | apply Kd.R_alloc | apply Kd.R_drewN | apply Kd.R_drew)); exact (Kd.R_mono (Kd.R_far (p := ⟨gb129, 1, none⟩) (Kd.R_mono HO_6.out (fun k_ hk => (⟨hk, hk.2⟩ : _ ∧ k_ ≠ gb129))) (fun _ hk => hk.2) (.int .i64 t130)) (fun _ h_ => h_.1))) (by decide)) hk (fun _ h => h.2)) (fun _ h => h.1)); have n1_ := Aside0.mk (KeepBut.blk hk (g' := gb129) (o := .cells #[.int .i64 t125, .int .i64 t130, .string (⟨#[]⟩ : ByteArray)] 42 (0, 0)) (by (with_reducible repeat (first | refine blk_drewN ?_ _ | refine blk_drew ?_ | refine blk_alloc ?_ _)); refine blk_put (cs := #[.int .i64 t125, .int .i64 0, .string (⟨#[]⟩ : ByteArray)]) ?_ 1 _ rfl; (with_reducible repeat (first | refine blk_drewN ?_ _ | refine blk_drew ?_ | refine blk_alloc ?_ _)); exact BK129.out) NB129_1.out (by simp)); have n2_ := Aside0.mk (KeepBut.trans (by repeat (first | (with_reducible first | exact HK.out | apply KeepBut.set_ | apply keep_drewN | apply keep_drew | apply keep_alloc | refine keep_far ?_ GW129.out _) | exact HK.out)) hk (.inl rfl)); have n3_ := Aside0.mk (hb); have n4_ := Aside0.mk (hi); clear HO_6; clear BK129; clear HK; clear HB; clear HI1; have HO_6 := n0_; have BK129 := n1_; have HK := n2_; have HB := n3_; have HI1 := n4_; clear n0_ n1_ n2_ n3_ n4_; (try clear hb); (try clear hb2); (try clear hk); (try clear hi); have hcz34_0 : w33.cell? ⟨gb129, 0, none⟩ = some (.int .i64 t125) := (blk_cell BK129.out 0).trans rfl; have hcz34_1 : w33.cell? ⟨gb129, 1, none⟩ = some (.int .i64 t130) := (blk_cell BK129.out 1).trans rfl; have hcz34_2 : w33.cell? ⟨gb129, 2, none⟩ = some (.string (⟨#[]⟩ : ByteArray)) := (blk_cell BK129.out 2).trans rfl; have hfz34_0 := blk_frozen BK129.out 0; have hfz34_1 := blk_frozen BK129.out 1; have hfz34_2 := blk_frozen BK129.out 2) | (go_at_call 32; (with_reducible refine (edits_scanner_byte.calls gB t135 t136 t137 10 t138 t139 false w _ ?side1 ?side2 A10.out).mono ?_); (case side1 => repeat (first | (with_reducible first | exact HI1.out | apply IsS65.alloc | apply IsS65.drewN | apply IsS65.drew | apply IsS65.set_0 | apply IsS65.set_1 | apply IsS65.set_2 | refine IsS65.far ?_ NB1_129.out _) | exact HI1.out)); (case side2 => repeat (first | (with_reducible first | exact HB.out | apply below_alloc | apply pw_below_drewN | apply below_drew1 | refine below_set ?_ (IsS65.ge HI1.out) | refine below_set ?_ GE129.out) | exact HB.out)); rintro e w35 ⟨rfl, hi, hb, hk⟩; have n0_ := Aside0.mk (Kd.R_mono (Kd.R_keep (IsS65.apart (show IsS65 w _ gB t135 t136 t137 from by repeat (first | (with_reducible first | exact HI1.out | apply IsS65.alloc | apply IsS65.drewN | apply IsS65.drew | apply IsS65.set_0 | apply IsS65.set_1 | apply IsS65.set_2 | refine IsS65.far ?_ NB1_129.out _) | exact HI1.out)) (by (with_reducible repeat (first | apply Kd.R_alloc | apply Kd.R_drewN | apply Kd.R_drew)); exact (Kd.R_mono (Kd.R_far (p := ⟨gb129, 2, none⟩) (Kd.R_mono HO_6.out (fun k_ hk => (⟨hk, hk.2⟩ : _ ∧ k_ ≠ gb129))) (fun _ hk => hk.2) (.string t134)) (fun _ h_ => h_.1))) (by decide)) hk (fun _ h => h.2)) (fun _ h => h.1)); have n1_ := Aside0.mk (KeepBut.blk hk (g' := gb129) (o := .cells #[.int .i64 t125, .int .i64 t130, .string t134] 42 (0, 0)) (by (with_reducible repeat (first | refine blk_drewN ?_ _ | refine blk_drew ?_ | refine blk_alloc ?_ _)); refine blk_put (cs := #[.int .i64 t125, .int .i64 t130, .string (⟨#[]⟩ : ByteArray)]) ?_ 2 _ rfl; (with_reducible repeat (first | refine blk_drewN ?_ _ | refine blk_drew ?_ | refine blk_alloc ?_ _)); exact BK129.out) NB129_1.out (by simp)); have n2_ := Aside0.mk (KeepBut.trans (by repeat (first | (with_reducible first | exact HK.out | apply KeepBut.set_ | apply keep_drewN | apply keep_drew | apply keep_alloc | refine keep_far ?_ GW129.out _) | exact HK.out)) hk (.inl rfl)); have n3_ := Aside0.mk (hb); have n4_ := Aside0.mk (hi); clear HO_6; clear BK129; clear HK; clear HB; clear HI1; have HO_6 := n0_; have BK129 := n1_; have HK := n2_; have HB := n3_; have HI1 := n4_; clear n0_ n1_ n2_ n3_ n4_; (try clear hb); (try clear hb2); (try clear hk); (try clear hi); obtain ⟨HGz36, hgz36⟩ := HI1.out; have hcz36_0 := cellS65_0 HGz36; have hcz36_1 := cellS65_1 HGz36; have hcz36_2 := cellS65_2 HGz36; have hfz36_0 := blk_frozen HGz36 0; have hfz36_1 := blk_frozen HGz36 1; have hfz36_2 := blk_frozen HGz36 2; clear HGz36 hgz36; have hcz37_0 : w35.cell? ⟨gb129, 0, none⟩ = some (.int .i64 t125) := (blk_cell BK129.out 0).trans rfl; have hcz37_1 : w35.cell? ⟨gb129, 1, none⟩ = some (.int .i64 t130) := (blk_cell BK129.out 1).trans rfl; have hcz37_2 : w35.cell? ⟨gb129, 2, none⟩ = some (.string t134) := (blk_cell BK129.out 2).trans rfl; have hfz37_0 := blk_frozen BK129.out 0; have hfz37_1 := blk_frozen BK129.out 1; have hfz37_2 := blk_frozen BK129.out 2) | ((with_reducible refine gate_builtin (b := .append) (xs := #[.tmp 44, .tmp 46]) rfl ?_); at_builtin; refine Kd.R_append k42 wB.heap.size rfl (.tmp 44) (.tmp 46) 22 42 (.agg #[(.int .i64 0), (.int .i64 0), (.string ⟨#[]⟩)]) 32 rfl Tryd.underlying22 info42 rfl (by decide) (by omega) (.slice Ao26 x6_1.length co26) x6_1 (⟨t125, t130, t134⟩ : S42) [.int .i64 t125, .int .i64 t130, .string t134] (fun k_ => k_ ≠ gb129) (fun _ => False) rfl rfl ?aP (fun _ hk => hk.elim) ?aF ?aO (Below.refl _ _) ?aS ?aL ?_; (case aP => exact k42_mkM _ _ _ (⟨t125, t130, t134⟩ : S42)); (case aF => exact (fun k_ hk => Kd.freshB (g := gb129) (o := .cells #[.int .i64 t125, .int .i64 t130, .string t134] 42 (0, 0)) (by (with_reducible repeat (first | refine blk_drewN ?_ _ | refine blk_drew ?_ | refine blk_alloc ?_ _)); exact BK129.out) k_ hk)); (case aO => exact (by (with_reducible repeat (first | apply Kd.R_alloc | apply Kd.R_drewN | apply Kd.R_drew)); exact Kd.R_mono HO_6.out (fun _ hk => hk.2))); (case aS => exact (keep_size (w := wB) (g := gB) (row := none) (by repeat (first | (with_reducible first | exact HK.out | apply KeepBut.set_ | apply keep_drewN | apply keep_drew | apply keep_alloc | refine keep_far ?_ GW129.out _) | exact HK.out)))); (case aL => have := LMc24.out; omega); intro v142 w38 ho hb hg hat; rw [← Ny141.out] at ho; have n0_ := Aside0.mk (IsS65.grown (by repeat (first | (with_reducible first | exact HI1.out | apply IsS65.alloc | apply IsS65.drewN | apply IsS65.drew | apply IsS65.set_0 | apply IsS65.set_1 | apply IsS65.set_2 | refine IsS65.far ?_ NB1_129.out _) | exact HI1.out)) hg (IsS65.own_ne HI1.out HO_6.out (by decide))); have n1_ := Aside0.mk (blk_grown (g := gb129) (o := .cells #[.int .i64 t125, .int .i64 t130, .string t134] 42 (0, 0)) (by (with_reducible repeat (first | refine blk_drewN ?_ _ | refine blk_drew ?_ | refine blk_alloc ?_ _)); exact BK129.out) hg (Kd.R_away HO_6.out (fun _ hk => hk.2))); have n2_ := Aside0.mk (below_weaken (by repeat (first | (with_reducible first | exact HB.out | apply below_alloc | apply pw_below_drewN | apply below_drew1 | refine below_set ?_ (IsS65.ge HI1.out) | refine below_set ?_ GE129.out) | exact HB.out)) HL.out hb); have n3_ := Aside0.mk (KeepBut.trans (by repeat (first | (with_reducible first | exact HK.out | apply KeepBut.set_ | apply keep_drewN | apply keep_drew | apply keep_alloc | refine keep_far ?_ GW129.out _) | exact HK.out)) (KeepBut.of_grown hg gB) (Kd.R_base2 HO_6.out)); have n4_ := Aside0.mk (ho); clear HI1; clear BK129; clear HB; clear HK; clear HO_6; have HI1 := n0_; have BK129 := n1_; have HB := n2_; have HK := n3_; have HO143 := n4_; clear n0_ n1_ n2_ n3_ n4_; clear ho hb hg hat))
              repeat (go_quiet (first | (go_at_call 30; (with_reducible refine (edits_scanner_number.calls k1 gB x2000_1 x2001_1 x2002_1 44 t125 t126 t127 t128 w _ ?side1 ?side2 A7.out).mono ?_); (case side1 => repeat (first | (with_reducible first | exact HI1.out | apply IsS65.alloc | apply IsS65.drewN | apply IsS65.drew | apply IsS65.set_0 | apply IsS65.set_1 | apply IsS65.set_2) | exact HI1.out)); (case side2 => repeat (first | (with_reducible first | exact HB.out | apply below_alloc | apply pw_below_drewN | apply below_drew1 | refine below_set ?_ (IsS65.ge HI1.out)) | exact HB.out)); rintro e w27 ⟨rfl, hi, hb, hk⟩; have n0_ := Aside0.mk (Kd.R_mono (Kd.R_keep (IsS65.apart (show IsS65 w _ gB x2000_1 x2001_1 x2002_1 from by repeat (first | (with_reducible first | exact HI1.out | apply IsS65.alloc | apply IsS65.drewN | apply IsS65.drew | apply IsS65.set_0 | apply IsS65.set_1 | apply IsS65.set_2) | exact HI1.out)) (by (with_reducible repeat (first | apply Kd.R_alloc | apply Kd.R_drewN | apply Kd.R_drew)); exact HO_6.out) (by decide)) hk (fun _ h => h.2)) (fun _ h => h.1)); have n1_ := Aside0.mk (KeepBut.trans (by repeat (first | (with_reducible first | exact HK.out | apply KeepBut.set_ | apply keep_drewN | apply keep_drew | apply keep_alloc) | exact HK.out)) hk (.inl rfl)); have n2_ := Aside0.mk (hb); have n3_ := Aside0.mk (hi); clear HO_6; clear HK; clear HB; clear HI1; have HO_6 := n0_; have HK := n1_; have HB := n2_; have HI1 := n3_; clear n0_ n1_ n2_ n3_; (try clear hb); (try clear hb2); (try clear hk); (try clear hi)) | ((with_reducible refine gate_dst (N := 7) rfl ?_); refine box_event ?hg (N := 7) ?hd (cs := #[.int .i64 0, .int .i64 0, .string (⟨#[]⟩ : ByteArray)]) (t := 42) ?hr ?_; (case hd => rfl); (case hg => rfl); (case hr => first | (go_simp; done) | (go_simp; rfl)); intro gb129 hg w28 hbox hb; have n0_ := Aside0.mk (Kd.R_below (Kd.R_elderB (by (with_reducible repeat (first | apply Kd.R_alloc | apply Kd.R_drewN | apply Kd.R_drew)); exact HO_6.out) gb129 (Nat.le_of_eq hg.symm)) hb); have n1_ := Aside0.mk (IsS65.below (by repeat (first | (with_reducible first | exact HI1.out | apply IsS65.alloc | apply IsS65.drewN | apply IsS65.drew | apply IsS65.set_0 | apply IsS65.set_1 | apply IsS65.set_2) | exact HI1.out)) hb); have n2_ := Aside0.mk (KeepBut.trans (by repeat (first | (with_reducible first | exact HK.out | apply KeepBut.set_ | apply keep_drewN | apply keep_drew | apply keep_alloc) | exact HK.out)) (KeepBut.of_below hb gB none) (.inl rfl)); have n3_ := Aside0.mk (below_step (by repeat (first | (with_reducible first | exact HB.out | apply below_alloc | apply pw_below_drewN | apply below_drew1 | refine below_set ?_ (IsS65.ge HI1.out)) | exact HB.out)) hb); have n4_ := Aside0.mk (hbox); have n5_ := Aside0.mk ((by rw [hg]; exact (keep_size (w := wB) (g := gB) (row := none) (by repeat (first | (with_reducible first | exact HK.out | apply KeepBut.set_ | apply keep_drewN | apply keep_drew | apply keep_alloc) | exact HK.out))) : wB.heap.size ≤ gb129)); have n6_ := Aside0.mk ((Nat.le_trans HW0.out (by rw [hg]; exact (keep_size (w := wB) (g := gB) (row := none) (by repeat (first | (with_reducible first | exact HK.out | apply KeepBut.set_ | apply keep_drewN | apply keep_drew | apply keep_alloc) | exact HK.out))) : wB.heap.size ≤ gb129) : w.heap.size ≤ gb129)); have n7_ := Aside0.mk ((by rw [hg]; exact Nat.ne_of_lt (IsS65.lt (show IsS65 w _ gB t126 t127 t128 from by repeat (first | (with_reducible first | exact HI1.out | apply IsS65.alloc | apply IsS65.drewN | apply IsS65.drew | apply IsS65.set_0 | apply IsS65.set_1 | apply IsS65.set_2) | exact HI1.out))) : gB ≠ gb129)); have n8_ := Aside0.mk ((by rw [hg]; exact Nat.ne_of_gt (IsS65.lt (show IsS65 w _ gB t126 t127 t128 from by repeat (first | (with_reducible first | exact HI1.out | apply IsS65.alloc | apply IsS65.drewN | apply IsS65.drew | apply IsS65.set_0 | apply IsS65.set_1 | apply IsS65.set_2) | exact HI1.out))) : gb129 ≠ gB)); clear HO_6; clear HI1; clear HK; clear HB; have HO_6 := n0_; have HI1 := n1_; have HK := n2_; have HB := n3_; have BK129 := n4_; have GW129 := n5_; have GE129 := n6_; have NB1_129 := n7_; have NB129_1 := n8_; clear n0_ n1_ n2_ n3_ n4_ n5_ n6_ n7_ n8_; clear hb hbox hg; have hnb29 := NB129_1.out; have hnc29 := NB1_129.out; have hcz30_0 : w28.cell? ⟨gb129, 0, none⟩ = some (.int .i64 0) := (blk_cell BK129.out 0).trans rfl; have hcz30_1 : w28.cell? ⟨gb129, 1, none⟩ = some (.int .i64 0) := (blk_cell BK129.out 1).trans rfl; have hcz30_2 : w28.cell? ⟨gb129, 2, none⟩ = some (.string (⟨#[]⟩ : ByteArray)) := (blk_cell BK129.out 2).trans rfl; have hfz30_0 := blk_frozen BK129.out 0; have hfz30_1 := blk_frozen BK129.out 1; have hfz30_2 := blk_frozen BK129.out 2) | (go_at_call 30; (with_reducible refine (edits_scanner_number.calls k1 gB t126 t127 t128 32 t130 t131 t132 t133 w _ ?side1 ?side2 A8.out).mono ?_); (case side1 => repeat (first | (with_reducible first | exact HI1.out | apply IsS65.alloc | apply IsS65.drewN | apply IsS65.drew | apply IsS65.set_0 | apply IsS65.set_1 | apply IsS65.set_2 | refine IsS65.far ?_ NB1_129.out _) | exact HI1.out)); (case side2 => repeat (first | (with_reducible first | exact HB.out | apply below_alloc | apply pw_below_drewN | apply below_drew1 | refine below_set ?_ (IsS65.ge HI1.out) | refine below_set ?_ GE129.out) | exact HB.out)); rintro e w31 ⟨rfl, hi, hb, hk⟩; have n0_ := Aside0.mk (Kd.R_mono (Kd.R_keep (IsS65.apart (show IsS65 w _ gB t126 t127 t128 from by repeat (first | (with_reducible first | exact HI1.out | apply IsS65.alloc | apply IsS65.drewN | apply IsS65.drew | apply IsS65.set_0 | apply IsS65.set_1 | apply IsS65.set_2 | refine IsS65.far ?_ NB1_129.out _) | exact HI1.out)) (by (with_reducible repeat (first | apply Kd.R_alloc | apply Kd.R_drewN | apply Kd.R_drew)); exact (Kd.R_mono (Kd.R_far (p := ⟨gb129, 2, none⟩) (Kd.R_far (p := ⟨gb129, 1, none⟩) (Kd.R_far (p := ⟨gb129, 0, none⟩) (Kd.R_mono HO_6.out (fun k_ hk => (⟨hk, hk.2⟩ : _ ∧ k_ ≠ gb129))) (fun _ hk => hk.2) (.int .i64 t125)) (fun _ hk => hk.2) (.int .i64 0)) (fun _ hk => hk.2) (.string (⟨#[]⟩ : ByteArray))) (fun _ h_ => h_.1))) (by decide)) hk (fun _ h => h.2)) (fun _ h => h.1)); have n1_ := Aside0.mk (KeepBut.blk hk (g' := gb129) (o := .cells #[.int .i64 t125, .int .i64 0, .string (⟨#[]⟩ : ByteArray)] 42 (0, 0)) (by (with_reducible repeat (first | refine blk_drewN ?_ _ | refine blk_drew ?_ | refine blk_alloc ?_ _)); refine blk_put (cs := #[.int .i64 t125, .int .i64 0, .string (⟨#[]⟩ : ByteArray)]) ?_ 2 _ rfl; (with_reducible repeat (first | refine blk_drewN ?_ _ | refine blk_drew ?_ | refine blk_alloc ?_ _)); refine blk_put (cs := #[.int .i64 t125, .int .i64 0, .string (⟨#[]⟩ : ByteArray)]) ?_ 1 _ rfl; (with_reducible repeat (first | refine blk_drewN ?_ _ | refine blk_drew ?_ | refine blk_alloc ?_ _)); refine blk_put (cs := #[.int .i64 0, .int .i64 0, .string (⟨#[]⟩ : ByteArray)]) ?_ 0 _ rfl; (with_reducible repeat (first | refine blk_drewN ?_ _ | refine blk_drew ?_ | refine blk_alloc ?_ _)); exact BK129.out) NB129_1.out (by simp)); have n2_ := Aside0.mk (KeepBut.trans (by repeat (first | (with_reducible first | exact HK.out | apply KeepBut.set_ | apply keep_drewN | apply keep_drew | apply keep_alloc | refine keep_far ?_ GW129.out _) | exact HK.out)) hk (.inl rfl)); have n3_ := Aside0.mk (hb); have n4_ := Aside0.mk (hi); clear HO_6; clear BK129; clear HK; clear HB; clear HI1; have HO_6 := n0_; have BK129 := n1_; have HK := n2_; have HB := n3_; have HI1 := n4_; clear n0_ n1_ n2_ n3_ n4_; (try clear hb); (try clear hb2); (try clear hk); (try clear hi); have hcz32_0 : w31.cell? ⟨gb129, 0, none⟩ = some (.int .i64 t125) := (blk_cell BK129.out 0).trans rfl; have hcz32_1 : w31.cell? ⟨gb129, 1, none⟩ = some (.int .i64 0) := (blk_cell BK129.out 1).trans rfl; have hcz32_2 : w31.cell? ⟨gb129, 2, none⟩ = some (.string (⟨#[]⟩ : ByteArray)) := (blk_cell BK129.out 2).trans rfl; have hfz32_0 := blk_frozen BK129.out 0; have hfz32_1 := blk_frozen BK129.out 1; have hfz32_2 := blk_frozen BK129.out 2) | (go_at_call 31; (with_reducible refine (edits_scanner_quoted.calls k1 gB t131 t132 t133 t134 t135 t136 t137 w _ ?side1 ?side2 A9.out).mono ?_); (case side1 => repeat (first | (with_reducible first | exact HI1.out | apply IsS65.alloc | apply IsS65.drewN | apply IsS65.drew | apply IsS65.set_0 | apply IsS65.set_1 | apply IsS65.set_2 | refine IsS65.far ?_ NB1_129.out _) | exact HI1.out)); (case side2 => repeat (first | (with_reducible first | exact HB.out | apply below_alloc | apply pw_below_drewN | apply below_drew1 | refine below_set ?_ (IsS65.ge HI1.out) | refine below_set ?_ GE129.out) | exact HB.out)); rintro e w33 ⟨rfl, hi, hb, hk⟩; have n0_ := Aside0.mk (Kd.R_mono (Kd.R_keep (IsS65.apart (show IsS65 w _ gB t131 t132 t133 from by repeat (first | (with_reducible first | exact HI1.out | apply IsS65.alloc | apply IsS65.drewN | apply IsS65.drew | apply IsS65.set_0 | apply IsS65.set_1 | apply IsS65.set_2 | refine IsS65.far ?_ NB1_129.out _) | exact HI1.out)) (by (with_reducible repeat (first | apply Kd.R_alloc | apply Kd.R_drewN | apply Kd.R_drew)); exact (Kd.R_mono (Kd.R_far (p := ⟨gb129, 1, none⟩) (Kd.R_mono HO_6.out (fun k_ hk => (⟨hk, hk.2⟩ : _ ∧ k_ ≠ gb129))) (fun _ hk => hk.2) (.int .i64 t130)) (fun _ h_ => h_.1))) (by decide)) hk (fun _ h => h.2)) (fun _ h => h.1)); have n1_ := Aside0.mk (KeepBut.blk hk (g' := gb129) (o := .cells #[.int .i64 t125, .int .i64 t130, .string (⟨#[]⟩ : ByteArray)] 42 (0, 0)) (by (with_reducible repeat (first | refine blk_drewN ?_ _ | refine blk_drew ?_ | refine blk_alloc ?_ _)); refine blk_put (cs := #[.int .i64 t125, .int .i64 0, .string (⟨#[]⟩ : ByteArray)]) ?_ 1 _ rfl; (with_reducible repeat (first | refine blk_drewN ?_ _ | refine blk_drew ?_ | refine blk_alloc ?_ _)); exact BK129.out) NB129_1.out (by simp)); have n2_ := Aside0.mk (KeepBut.trans (by repeat (first | (with_reducible first | exact HK.out | apply KeepBut.set_ | apply keep_drewN | apply keep_drew | apply keep_alloc | refine keep_far ?_ GW129.out _) | exact HK.out)) hk (.inl rfl)); have n3_ := Aside0.mk (hb); have n4_ := Aside0.mk (hi); clear HO_6; clear BK129; clear HK; clear HB; clear HI1; have HO_6 := n0_; have BK129 := n1_; have HK := n2_; have HB := n3_; have HI1 := n4_; clear n0_ n1_ n2_ n3_ n4_; (try clear hb); (try clear hb2); (try clear hk); (try clear hi); have hcz34_0 : w33.cell? ⟨gb129, 0, none⟩ = some (.int .i64 t125) := (blk_cell BK129.out 0).trans rfl; have hcz34_1 : w33.cell? ⟨gb129, 1, none⟩ = some (.int .i64 t130) := (blk_cell BK129.out 1).trans rfl; have hcz34_2 : w33.cell? ⟨gb129, 2, none⟩ = some (.string (⟨#[]⟩ : ByteArray)) := (blk_cell BK129.out 2).trans rfl; have hfz34_0 := blk_frozen BK129.out 0; have hfz34_1 := blk_frozen BK129.out 1; have hfz34_2 := blk_frozen BK129.out 2) | (go_at_call 32; (with_reducible refine (edits_scanner_byte.calls gB t135 t136 t137 10 t138 t139 false w _ ?side1 ?side2 A10.out).mono ?_); (case side1 => repeat (first | (with_reducible first | exact HI1.out | apply IsS65.alloc | apply IsS65.drewN | apply IsS65.drew | apply IsS65.set_0 | apply IsS65.set_1 | apply IsS65.set_2 | refine IsS65.far ?_ NB1_129.out _) | exact HI1.out)); (case side2 => repeat (first | (with_reducible first | exact HB.out | apply below_alloc | apply pw_below_drewN | apply below_drew1 | refine below_set ?_ (IsS65.ge HI1.out) | refine below_set ?_ GE129.out) | exact HB.out)); rintro e w35 ⟨rfl, hi, hb, hk⟩; have n0_ := Aside0.mk (Kd.R_mono (Kd.R_keep (IsS65.apart (show IsS65 w _ gB t135 t136 t137 from by repeat (first | (with_reducible first | exact HI1.out | apply IsS65.alloc | apply IsS65.drewN | apply IsS65.drew | apply IsS65.set_0 | apply IsS65.set_1 | apply IsS65.set_2 | refine IsS65.far ?_ NB1_129.out _) | exact HI1.out)) (by (with_reducible repeat (first | apply Kd.R_alloc | apply Kd.R_drewN | apply Kd.R_drew)); exact (Kd.R_mono (Kd.R_far (p := ⟨gb129, 2, none⟩) (Kd.R_mono HO_6.out (fun k_ hk => (⟨hk, hk.2⟩ : _ ∧ k_ ≠ gb129))) (fun _ hk => hk.2) (.string t134)) (fun _ h_ => h_.1))) (by decide)) hk (fun _ h => h.2)) (fun _ h => h.1)); have n1_ := Aside0.mk (KeepBut.blk hk (g' := gb129) (o := .cells #[.int .i64 t125, .int .i64 t130, .string t134] 42 (0, 0)) (by (with_reducible repeat (first | refine blk_drewN ?_ _ | refine blk_drew ?_ | refine blk_alloc ?_ _)); refine blk_put (cs := #[.int .i64 t125, .int .i64 t130, .string (⟨#[]⟩ : ByteArray)]) ?_ 2 _ rfl; (with_reducible repeat (first | refine blk_drewN ?_ _ | refine blk_drew ?_ | refine blk_alloc ?_ _)); exact BK129.out) NB129_1.out (by simp)); have n2_ := Aside0.mk (KeepBut.trans (by repeat (first | (with_reducible first | exact HK.out | apply KeepBut.set_ | apply keep_drewN | apply keep_drew | apply keep_alloc | refine keep_far ?_ GW129.out _) | exact HK.out)) hk (.inl rfl)); have n3_ := Aside0.mk (hb); have n4_ := Aside0.mk (hi); clear HO_6; clear BK129; clear HK; clear HB; clear HI1; have HO_6 := n0_; have BK129 := n1_; have HK := n2_; have HB := n3_; have HI1 := n4_; clear n0_ n1_ n2_ n3_ n4_; (try clear hb); (try clear hb2); (try clear hk); (try clear hi); obtain ⟨HGz36, hgz36⟩ := HI1.out; have hcz36_0 := cellS65_0 HGz36; have hcz36_1 := cellS65_1 HGz36; have hcz36_2 := cellS65_2 HGz36; have hfz36_0 := blk_frozen HGz36 0; have hfz36_1 := blk_frozen HGz36 1; have hfz36_2 := blk_frozen HGz36 2; clear HGz36 hgz36; have hcz37_0 : w35.cell? ⟨gb129, 0, none⟩ = some (.int .i64 t125) := (blk_cell BK129.out 0).trans rfl; have hcz37_1 : w35.cell? ⟨gb129, 1, none⟩ = some (.int .i64 t130) := (blk_cell BK129.out 1).trans rfl; have hcz37_2 : w35.cell? ⟨gb129, 2, none⟩ = some (.string t134) := (blk_cell BK129.out 2).trans rfl; have hfz37_0 := blk_frozen BK129.out 0; have hfz37_1 := blk_frozen BK129.out 1; have hfz37_2 := blk_frozen BK129.out 2) | ((with_reducible refine gate_builtin (b := .append) (xs := #[.tmp 44, .tmp 46]) rfl ?_); at_builtin; refine Kd.R_append k42 wB.heap.size rfl (.tmp 44) (.tmp 46) 22 42 (.agg #[(.int .i64 0), (.int .i64 0), (.string ⟨#[]⟩)]) 32 rfl Tryd.underlying22 info42 rfl (by decide) (by omega) (.slice Ao26 x6_1.length co26) x6_1 (⟨t125, t130, t134⟩ : S42) [.int .i64 t125, .int .i64 t130, .string t134] (fun k_ => k_ ≠ gb129) (fun _ => False) rfl rfl ?aP (fun _ hk => hk.elim) ?aF ?aO (Below.refl _ _) ?aS ?aL ?_; (case aP => exact k42_mkM _ _ _ (⟨t125, t130, t134⟩ : S42)); (case aF => exact (fun k_ hk => Kd.freshB (g := gb129) (o := .cells #[.int .i64 t125, .int .i64 t130, .string t134] 42 (0, 0)) (by (with_reducible repeat (first | refine blk_drewN ?_ _ | refine blk_drew ?_ | refine blk_alloc ?_ _)); exact BK129.out) k_ hk)); (case aO => exact (by (with_reducible repeat (first | apply Kd.R_alloc | apply Kd.R_drewN | apply Kd.R_drew)); exact Kd.R_mono HO_6.out (fun _ hk => hk.2))); (case aS => exact (keep_size (w := wB) (g := gB) (row := none) (by repeat (first | (with_reducible first | exact HK.out | apply KeepBut.set_ | apply keep_drewN | apply keep_drew | apply keep_alloc | refine keep_far ?_ GW129.out _) | exact HK.out)))); (case aL => have := LMc24.out; omega); intro v142 w38 ho hb hg hat; rw [← Ny141.out] at ho; have n0_ := Aside0.mk (IsS65.grown (by repeat (first | (with_reducible first | exact HI1.out | apply IsS65.alloc | apply IsS65.drewN | apply IsS65.drew | apply IsS65.set_0 | apply IsS65.set_1 | apply IsS65.set_2 | refine IsS65.far ?_ NB1_129.out _) | exact HI1.out)) hg (IsS65.own_ne HI1.out HO_6.out (by decide))); have n1_ := Aside0.mk (blk_grown (g := gb129) (o := .cells #[.int .i64 t125, .int .i64 t130, .string t134] 42 (0, 0)) (by (with_reducible repeat (first | refine blk_drewN ?_ _ | refine blk_drew ?_ | refine blk_alloc ?_ _)); exact BK129.out) hg (Kd.R_away HO_6.out (fun _ hk => hk.2))); have n2_ := Aside0.mk (below_weaken (by repeat (first | (with_reducible first | exact HB.out | apply below_alloc | apply pw_below_drewN | apply below_drew1 | refine below_set ?_ (IsS65.ge HI1.out) | refine below_set ?_ GE129.out) | exact HB.out)) HL.out hb); have n3_ := Aside0.mk (KeepBut.trans (by repeat (first | (with_reducible first | exact HK.out | apply KeepBut.set_ | apply keep_drewN | apply keep_drew | apply keep_alloc | refine keep_far ?_ GW129.out _) | exact HK.out)) (KeepBut.of_grown hg gB) (Kd.R_base2 HO_6.out)); have n4_ := Aside0.mk (ho); clear HI1; clear BK129; clear HB; clear HK; clear HO_6; have HI1 := n0_; have BK129 := n1_; have HB := n2_; have HK := n3_; have HO143 := n4_; clear n0_ n1_ n2_ n3_ n4_; clear ho hb hg hat)); try go_wp2_with (first | (go_at_call 30; (with_reducible refine (edits_scanner_number.calls k1 gB x2000_1 x2001_1 x2002_1 44 t125 t126 t127 t128 w _ ?side1 ?side2 A7.out).mono ?_); (case side1 => repeat (first | (with_reducible first | exact HI1.out | apply IsS65.alloc | apply IsS65.drewN | apply IsS65.drew | apply IsS65.set_0 | apply IsS65.set_1 | apply IsS65.set_2) | exact HI1.out)); (case side2 => repeat (first | (with_reducible first | exact HB.out | apply below_alloc | apply pw_below_drewN | apply below_drew1 | refine below_set ?_ (IsS65.ge HI1.out)) | exact HB.out)); rintro e w27 ⟨rfl, hi, hb, hk⟩; have n0_ := Aside0.mk (Kd.R_mono (Kd.R_keep (IsS65.apart (show IsS65 w _ gB x2000_1 x2001_1 x2002_1 from by repeat (first | (with_reducible first | exact HI1.out | apply IsS65.alloc | apply IsS65.drewN | apply IsS65.drew | apply IsS65.set_0 | apply IsS65.set_1 | apply IsS65.set_2) | exact HI1.out)) (by (with_reducible repeat (first | apply Kd.R_alloc | apply Kd.R_drewN | apply Kd.R_drew)); exact HO_6.out) (by decide)) hk (fun _ h => h.2)) (fun _ h => h.1)); have n1_ := Aside0.mk (KeepBut.trans (by repeat (first | (with_reducible first | exact HK.out | apply KeepBut.set_ | apply keep_drewN | apply keep_drew | apply keep_alloc) | exact HK.out)) hk (.inl rfl)); have n2_ := Aside0.mk (hb); have n3_ := Aside0.mk (hi); clear HO_6; clear HK; clear HB; clear HI1; have HO_6 := n0_; have HK := n1_; have HB := n2_; have HI1 := n3_; clear n0_ n1_ n2_ n3_; (try clear hb); (try clear hb2); (try clear hk); (try clear hi)) | ((with_reducible refine gate_dst (N := 7) rfl ?_); refine box_event ?hg (N := 7) ?hd (cs := #[.int .i64 0, .int .i64 0, .string (⟨#[]⟩ : ByteArray)]) (t := 42) ?hr ?_; (case hd => rfl); (case hg => rfl); (case hr => first | (go_simp; done) | (go_simp; rfl)); intro gb129 hg w28 hbox hb; have n0_ := Aside0.mk (Kd.R_below (Kd.R_elderB (by (with_reducible repeat (first | apply Kd.R_alloc | apply Kd.R_drewN | apply Kd.R_drew)); exact HO_6.out) gb129 (Nat.le_of_eq hg.symm)) hb); have n1_ := Aside0.mk (IsS65.below (by repeat (first | (with_reducible first | exact HI1.out | apply IsS65.alloc | apply IsS65.drewN | apply IsS65.drew | apply IsS65.set_0 | apply IsS65.set_1 | apply IsS65.set_2) | exact HI1.out)) hb); have n2_ := Aside0.mk (KeepBut.trans (by repeat (first | (with_reducible first | exact HK.out | apply KeepBut.set_ | apply keep_drewN | apply keep_drew | apply keep_alloc) | exact HK.out)) (KeepBut.of_below hb gB none) (.inl rfl)); have n3_ := Aside0.mk (below_step (by repeat (first | (with_reducible first | exact HB.out | apply below_alloc | apply pw_below_drewN | apply below_drew1 | refine below_set ?_ (IsS65.ge HI1.out)) | exact HB.out)) hb); have n4_ := Aside0.mk (hbox); have n5_ := Aside0.mk ((by rw [hg]; exact (keep_size (w := wB) (g := gB) (row := none) (by repeat (first | (with_reducible first | exact HK.out | apply KeepBut.set_ | apply keep_drewN | apply keep_drew | apply keep_alloc) | exact HK.out))) : wB.heap.size ≤ gb129)); have n6_ := Aside0.mk ((Nat.le_trans HW0.out (by rw [hg]; exact (keep_size (w := wB) (g := gB) (row := none) (by repeat (first | (with_reducible first | exact HK.out | apply KeepBut.set_ | apply keep_drewN | apply keep_drew | apply keep_alloc) | exact HK.out))) : wB.heap.size ≤ gb129) : w.heap.size ≤ gb129)); have n7_ := Aside0.mk ((by rw [hg]; exact Nat.ne_of_lt (IsS65.lt (show IsS65 w _ gB t126 t127 t128 from by repeat (first | (with_reducible first | exact HI1.out | apply IsS65.alloc | apply IsS65.drewN | apply IsS65.drew | apply IsS65.set_0 | apply IsS65.set_1 | apply IsS65.set_2) | exact HI1.out))) : gB ≠ gb129)); have n8_ := Aside0.mk ((by rw [hg]; exact Nat.ne_of_gt (IsS65.lt (show IsS65 w _ gB t126 t127 t128 from by repeat (first | (with_reducible first | exact HI1.out | apply IsS65.alloc | apply IsS65.drewN | apply IsS65.drew | apply IsS65.set_0 | apply IsS65.set_1 | apply IsS65.set_2) | exact HI1.out))) : gb129 ≠ gB)); clear HO_6; clear HI1; clear HK; clear HB; have HO_6 := n0_; have HI1 := n1_; have HK := n2_; have HB := n3_; have BK129 := n4_; have GW129 := n5_; have GE129 := n6_; have NB1_129 := n7_; have NB129_1 := n8_; clear n0_ n1_ n2_ n3_ n4_ n5_ n6_ n7_ n8_; clear hb hbox hg; have hnb29 := NB129_1.out; have hnc29 := NB1_129.out; have hcz30_0 : w28.cell? ⟨gb129, 0, none⟩ = some (.int .i64 0) := (blk_cell BK129.out 0).trans rfl; have hcz30_1 : w28.cell? ⟨gb129, 1, none⟩ = some (.int .i64 0) := (blk_cell BK129.out 1).trans rfl; have hcz30_2 : w28.cell? ⟨gb129, 2, none⟩ = some (.string (⟨#[]⟩ : ByteArray)) := (blk_cell BK129.out 2).trans rfl; have hfz30_0 := blk_frozen BK129.out 0; have hfz30_1 := blk_frozen BK129.out 1; have hfz30_2 := blk_frozen BK129.out 2) | (go_at_call 30; (with_reducible refine (edits_scanner_number.calls k1 gB t126 t127 t128 32 t130 t131 t132 t133 w _ ?side1 ?side2 A8.out).mono ?_); (case side1 => repeat (first | (with_reducible first | exact HI1.out | apply IsS65.alloc | apply IsS65.drewN | apply IsS65.drew | apply IsS65.set_0 | apply IsS65.set_1 | apply IsS65.set_2 | refine IsS65.far ?_ NB1_129.out _) | exact HI1.out)); (case side2 => repeat (first | (with_reducible first | exact HB.out | apply below_alloc | apply pw_below_drewN | apply below_drew1 | refine below_set ?_ (IsS65.ge HI1.out) | refine below_set ?_ GE129.out) | exact HB.out)); rintro e w31 ⟨rfl, hi, hb, hk⟩; have n0_ := Aside0.mk (Kd.R_mono (Kd.R_keep (IsS65.apart (show IsS65 w _ gB t126 t127 t128 from by repeat (first | (with_reducible first | exact HI1.out | apply IsS65.alloc | apply IsS65.drewN | apply IsS65.drew | apply IsS65.set_0 | apply IsS65.set_1 | apply IsS65.set_2 | refine IsS65.far ?_ NB1_129.out _) | exact HI1.out)) (by (with_reducible repeat (first | apply Kd.R_alloc | apply Kd.R_drewN | apply Kd.R_drew)); exact (Kd.R_mono (Kd.R_far (p := ⟨gb129, 2, none⟩) (Kd.R_far (p := ⟨gb129, 1, none⟩) (Kd.R_far (p := ⟨gb129, 0, none⟩) (Kd.R_mono HO_6.out (fun k_ hk => (⟨hk, hk.2⟩ : _ ∧ k_ ≠ gb129))) (fun _ hk => hk.2) (.int .i64 t125)) (fun _ hk => hk.2) (.int .i64 0)) (fun _ hk => hk.2) (.string (⟨#[]⟩ : ByteArray))) (fun _ h_ => h_.1))) (by decide)) hk (fun _ h => h.2)) (fun _ h => h.1)); have n1_ := Aside0.mk (KeepBut.blk hk (g' := gb129) (o := .cells #[.int .i64 t125, .int .i64 0, .string (⟨#[]⟩ : ByteArray)] 42 (0, 0)) (by (with_reducible repeat (first | refine blk_drewN ?_ _ | refine blk_drew ?_ | refine blk_alloc ?_ _)); refine blk_put (cs := #[.int .i64 t125, .int .i64 0, .string (⟨#[]⟩ : ByteArray)]) ?_ 2 _ rfl; (with_reducible repeat (first | refine blk_drewN ?_ _ | refine blk_drew ?_ | refine blk_alloc ?_ _)); refine blk_put (cs := #[.int .i64 t125, .int .i64 0, .string (⟨#[]⟩ : ByteArray)]) ?_ 1 _ rfl; (with_reducible repeat (first | refine blk_drewN ?_ _ | refine blk_drew ?_ | refine blk_alloc ?_ _)); refine blk_put (cs := #[.int .i64 0, .int .i64 0, .string (⟨#[]⟩ : ByteArray)]) ?_ 0 _ rfl; (with_reducible repeat (first | refine blk_drewN ?_ _ | refine blk_drew ?_ | refine blk_alloc ?_ _)); exact BK129.out) NB129_1.out (by simp)); have n2_ := Aside0.mk (KeepBut.trans (by repeat (first | (with_reducible first | exact HK.out | apply KeepBut.set_ | apply keep_drewN | apply keep_drew | apply keep_alloc | refine keep_far ?_ GW129.out _) | exact HK.out)) hk (.inl rfl)); have n3_ := Aside0.mk (hb); have n4_ := Aside0.mk (hi); clear HO_6; clear BK129; clear HK; clear HB; clear HI1; have HO_6 := n0_; have BK129 := n1_; have HK := n2_; have HB := n3_; have HI1 := n4_; clear n0_ n1_ n2_ n3_ n4_; (try clear hb); (try clear hb2); (try clear hk); (try clear hi); have hcz32_0 : w31.cell? ⟨gb129, 0, none⟩ = some (.int .i64 t125) := (blk_cell BK129.out 0).trans rfl; have hcz32_1 : w31.cell? ⟨gb129, 1, none⟩ = some (.int .i64 0) := (blk_cell BK129.out 1).trans rfl; have hcz32_2 : w31.cell? ⟨gb129, 2, none⟩ = some (.string (⟨#[]⟩ : ByteArray)) := (blk_cell BK129.out 2).trans rfl; have hfz32_0 := blk_frozen BK129.out 0; have hfz32_1 := blk_frozen BK129.out 1; have hfz32_2 := blk_frozen BK129.out 2) | (go_at_call 31; (with_reducible refine (edits_scanner_quoted.calls k1 gB t131 t132 t133 t134 t135 t136 t137 w _ ?side1 ?side2 A9.out).mono ?_); (case side1 => repeat (first | (with_reducible first | exact HI1.out | apply IsS65.alloc | apply IsS65.drewN | apply IsS65.drew | apply IsS65.set_0 | apply IsS65.set_1 | apply IsS65.set_2 | refine IsS65.far ?_ NB1_129.out _) | exact HI1.out)); (case side2 => repeat (first | (with_reducible first | exact HB.out | apply below_alloc | apply pw_below_drewN | apply below_drew1 | refine below_set ?_ (IsS65.ge HI1.out) | refine below_set ?_ GE129.out) | exact HB.out)); rintro e w33 ⟨rfl, hi, hb, hk⟩; have n0_ := Aside0.mk (Kd.R_mono (Kd.R_keep (IsS65.apart (show IsS65 w _ gB t131 t132 t133 from by repeat (first | (with_reducible first | exact HI1.out | apply IsS65.alloc | apply IsS65.drewN | apply IsS65.drew | apply IsS65.set_0 | apply IsS65.set_1 | apply IsS65.set_2 | refine IsS65.far ?_ NB1_129.out _) | exact HI1.out)) (by (with_reducible repeat (first | apply Kd.R_alloc | apply Kd.R_drewN | apply Kd.R_drew)); exact (Kd.R_mono (Kd.R_far (p := ⟨gb129, 1, none⟩) (Kd.R_mono HO_6.out (fun k_ hk => (⟨hk, hk.2⟩ : _ ∧ k_ ≠ gb129))) (fun _ hk => hk.2) (.int .i64 t130)) (fun _ h_ => h_.1))) (by decide)) hk (fun _ h => h.2)) (fun _ h => h.1)); have n1_ := Aside0.mk (KeepBut.blk hk (g' := gb129) (o := .cells #[.int .i64 t125, .int .i64 t130, .string (⟨#[]⟩ : ByteArray)] 42 (0, 0)) (by (with_reducible repeat (first | refine blk_drewN ?_ _ | refine blk_drew ?_ | refine blk_alloc ?_ _)); refine blk_put (cs := #[.int .i64 t125, .int .i64 0, .string (⟨#[]⟩ : ByteArray)]) ?_ 1 _ rfl; (with_reducible repeat (first | refine blk_drewN ?_ _ | refine blk_drew ?_ | refine blk_alloc ?_ _)); exact BK129.out) NB129_1.out (by simp)); have n2_ := Aside0.mk (KeepBut.trans (by repeat (first | (with_reducible first | exact HK.out | apply KeepBut.set_ | apply keep_drewN | apply keep_drew | apply keep_alloc | refine keep_far ?_ GW129.out _) | exact HK.out)) hk (.inl rfl)); have n3_ := Aside0.mk (hb); have n4_ := Aside0.mk (hi); clear HO_6; clear BK129; clear HK; clear HB; clear HI1; have HO_6 := n0_; have BK129 := n1_; have HK := n2_; have HB := n3_; have HI1 := n4_; clear n0_ n1_ n2_ n3_ n4_; (try clear hb); (try clear hb2); (try clear hk); (try clear hi); have hcz34_0 : w33.cell? ⟨gb129, 0, none⟩ = some (.int .i64 t125) := (blk_cell BK129.out 0).trans rfl; have hcz34_1 : w33.cell? ⟨gb129, 1, none⟩ = some (.int .i64 t130) := (blk_cell BK129.out 1).trans rfl; have hcz34_2 : w33.cell? ⟨gb129, 2, none⟩ = some (.string (⟨#[]⟩ : ByteArray)) := (blk_cell BK129.out 2).trans rfl; have hfz34_0 := blk_frozen BK129.out 0; have hfz34_1 := blk_frozen BK129.out 1; have hfz34_2 := blk_frozen BK129.out 2) | (go_at_call 32; (with_reducible refine (edits_scanner_byte.calls gB t135 t136 t137 10 t138 t139 false w _ ?side1 ?side2 A10.out).mono ?_); (case side1 => repeat (first | (with_reducible first | exact HI1.out | apply IsS65.alloc | apply IsS65.drewN | apply IsS65.drew | apply IsS65.set_0 | apply IsS65.set_1 | apply IsS65.set_2 | refine IsS65.far ?_ NB1_129.out _) | exact HI1.out)); (case side2 => repeat (first | (with_reducible first | exact HB.out | apply below_alloc | apply pw_below_drewN | apply below_drew1 | refine below_set ?_ (IsS65.ge HI1.out) | refine below_set ?_ GE129.out) | exact HB.out)); rintro e w35 ⟨rfl, hi, hb, hk⟩; have n0_ := Aside0.mk (Kd.R_mono (Kd.R_keep (IsS65.apart (show IsS65 w _ gB t135 t136 t137 from by repeat (first | (with_reducible first | exact HI1.out | apply IsS65.alloc | apply IsS65.drewN | apply IsS65.drew | apply IsS65.set_0 | apply IsS65.set_1 | apply IsS65.set_2 | refine IsS65.far ?_ NB1_129.out _) | exact HI1.out)) (by (with_reducible repeat (first | apply Kd.R_alloc | apply Kd.R_drewN | apply Kd.R_drew)); exact (Kd.R_mono (Kd.R_far (p := ⟨gb129, 2, none⟩) (Kd.R_mono HO_6.out (fun k_ hk => (⟨hk, hk.2⟩ : _ ∧ k_ ≠ gb129))) (fun _ hk => hk.2) (.string t134)) (fun _ h_ => h_.1))) (by decide)) hk (fun _ h => h.2)) (fun _ h => h.1)); have n1_ := Aside0.mk (KeepBut.blk hk (g' := gb129) (o := .cells #[.int .i64 t125, .int .i64 t130, .string t134] 42 (0, 0)) (by (with_reducible repeat (first | refine blk_drewN ?_ _ | refine blk_drew ?_ | refine blk_alloc ?_ _)); refine blk_put (cs := #[.int .i64 t125, .int .i64 t130, .string (⟨#[]⟩ : ByteArray)]) ?_ 2 _ rfl; (with_reducible repeat (first | refine blk_drewN ?_ _ | refine blk_drew ?_ | refine blk_alloc ?_ _)); exact BK129.out) NB129_1.out (by simp)); have n2_ := Aside0.mk (KeepBut.trans (by repeat (first | (with_reducible first | exact HK.out | apply KeepBut.set_ | apply keep_drewN | apply keep_drew | apply keep_alloc | refine keep_far ?_ GW129.out _) | exact HK.out)) hk (.inl rfl)); have n3_ := Aside0.mk (hb); have n4_ := Aside0.mk (hi); clear HO_6; clear BK129; clear HK; clear HB; clear HI1; have HO_6 := n0_; have BK129 := n1_; have HK := n2_; have HB := n3_; have HI1 := n4_; clear n0_ n1_ n2_ n3_ n4_; (try clear hb); (try clear hb2); (try clear hk); (try clear hi); obtain ⟨HGz36, hgz36⟩ := HI1.out; have hcz36_0 := cellS65_0 HGz36; have hcz36_1 := cellS65_1 HGz36; have hcz36_2 := cellS65_2 HGz36; have hfz36_0 := blk_frozen HGz36 0; have hfz36_1 := blk_frozen HGz36 1; have hfz36_2 := blk_frozen HGz36 2; clear HGz36 hgz36; have hcz37_0 : w35.cell? ⟨gb129, 0, none⟩ = some (.int .i64 t125) := (blk_cell BK129.out 0).trans rfl; have hcz37_1 : w35.cell? ⟨gb129, 1, none⟩ = some (.int .i64 t130) := (blk_cell BK129.out 1).trans rfl; have hcz37_2 : w35.cell? ⟨gb129, 2, none⟩ = some (.string t134) := (blk_cell BK129.out 2).trans rfl; have hfz37_0 := blk_frozen BK129.out 0; have hfz37_1 := blk_frozen BK129.out 1; have hfz37_2 := blk_frozen BK129.out 2) | ((with_reducible refine gate_builtin (b := .append) (xs := #[.tmp 44, .tmp 46]) rfl ?_); at_builtin; refine Kd.R_append k42 wB.heap.size rfl (.tmp 44) (.tmp 46) 22 42 (.agg #[(.int .i64 0), (.int .i64 0), (.string ⟨#[]⟩)]) 32 rfl Tryd.underlying22 info42 rfl (by decide) (by omega) (.slice Ao26 x6_1.length co26) x6_1 (⟨t125, t130, t134⟩ : S42) [.int .i64 t125, .int .i64 t130, .string t134] (fun k_ => k_ ≠ gb129) (fun _ => False) rfl rfl ?aP (fun _ hk => hk.elim) ?aF ?aO (Below.refl _ _) ?aS ?aL ?_; (case aP => exact k42_mkM _ _ _ (⟨t125, t130, t134⟩ : S42)); (case aF => exact (fun k_ hk => Kd.freshB (g := gb129) (o := .cells #[.int .i64 t125, .int .i64 t130, .string t134] 42 (0, 0)) (by (with_reducible repeat (first | refine blk_drewN ?_ _ | refine blk_drew ?_ | refine blk_alloc ?_ _)); exact BK129.out) k_ hk)); (case aO => exact (by (with_reducible repeat (first | apply Kd.R_alloc | apply Kd.R_drewN | apply Kd.R_drew)); exact Kd.R_mono HO_6.out (fun _ hk => hk.2))); (case aS => exact (keep_size (w := wB) (g := gB) (row := none) (by repeat (first | (with_reducible first | exact HK.out | apply KeepBut.set_ | apply keep_drewN | apply keep_drew | apply keep_alloc | refine keep_far ?_ GW129.out _) | exact HK.out)))); (case aL => have := LMc24.out; omega); intro v142 w38 ho hb hg hat; rw [← Ny141.out] at ho; have n0_ := Aside0.mk (IsS65.grown (by repeat (first | (with_reducible first | exact HI1.out | apply IsS65.alloc | apply IsS65.drewN | apply IsS65.drew | apply IsS65.set_0 | apply IsS65.set_1 | apply IsS65.set_2 | refine IsS65.far ?_ NB1_129.out _) | exact HI1.out)) hg (IsS65.own_ne HI1.out HO_6.out (by decide))); have n1_ := Aside0.mk (blk_grown (g := gb129) (o := .cells #[.int .i64 t125, .int .i64 t130, .string t134] 42 (0, 0)) (by (with_reducible repeat (first | refine blk_drewN ?_ _ | refine blk_drew ?_ | refine blk_alloc ?_ _)); exact BK129.out) hg (Kd.R_away HO_6.out (fun _ hk => hk.2))); have n2_ := Aside0.mk (below_weaken (by repeat (first | (with_reducible first | exact HB.out | apply below_alloc | apply pw_below_drewN | apply below_drew1 | refine below_set ?_ (IsS65.ge HI1.out) | refine below_set ?_ GE129.out) | exact HB.out)) HL.out hb); have n3_ := Aside0.mk (KeepBut.trans (by repeat (first | (with_reducible first | exact HK.out | apply KeepBut.set_ | apply keep_drewN | apply keep_drew | apply keep_alloc | refine keep_far ?_ GW129.out _) | exact HK.out)) (KeepBut.of_grown hg gB) (Kd.R_base2 HO_6.out)); have n4_ := Aside0.mk (ho); clear HI1; clear BK129; clear HB; clear HK; clear HO_6; have HI1 := n0_; have BK129 := n1_; have HB := n2_; have HK := n3_; have HO143 := n4_; clear n0_ n1_ n2_ n3_ n4_; clear ho hb hg hat)))
              go_roundg k1
              case measure => have := HK1.out; omega
              case rel => exact ⟨(y141), (t138), (t139), (false), H', ⟨by have := HK1.out; omega⟩, ⟨by (with_reducible repeat (first | apply Kd.R_alloc | apply Kd.R_drewN | apply Kd.R_drew)); exact Kd.R_mono HO143.out (fun _ hk => trivial)⟩, ⟨by repeat (first | (with_reducible first | exact HI1.out | apply IsS65.alloc | apply IsS65.drewN | apply IsS65.drew | apply IsS65.set_0 | apply IsS65.set_1 | apply IsS65.set_2 | refine IsS65.far ?_ NB1_129.out _) | exact HI1.out)⟩, ⟨by repeat (first | (with_reducible first | exact HK.out | apply KeepBut.set_ | apply keep_drewN | apply keep_drew | apply keep_alloc | refine keep_far ?_ GW129.out _) | exact HK.out)⟩, ⟨by repeat (first | (with_reducible first | exact HB.out | apply below_alloc | apply pw_below_drewN | apply below_drew1 | refine below_set ?_ (IsS65.ge HI1.out) | refine below_set ?_ GE129.out) | exact HB.out)⟩⟩
            · rw [if_neg c24] at H
              exact absurd H (by simp)
      · rw [if_neg c3] at H
        have c3b0 : decide (x2001_1 < (a0.size : Int)) = false := decide_eq_false c3
        clear c3
        simp only [Option.some.injEq, Prod.mk.injEq] at H
        obtain ⟨rfl, rfl, rfl, rfl, rfl, rfl⟩ := H
        obtain ⟨HGz39, hgz39⟩ := HI1.out
        have hcz39_0 := cellS65_0 HGz39
        have hcz39_1 := cellS65_1 HGz39
        have hcz39_2 := cellS65_2 HGz39
        have hfz39_0 := blk_frozen HGz39 0
        have hfz39_1 := blk_frozen HGz39 1
        have hfz39_2 := blk_frozen HGz39 2
        clear HGz39 hgz39
        go_wp2
        repeat (go_quiet (fail); try go_wp2)
        go_ret3
        exact ⟨wB, gB, _, HZ.out, by first | rfl | (simp [errW_none, errW_some] <;> rfl) | (simp [*, errW_none, errW_some] <;> rfl), by (with_reducible repeat (first | apply Kd.R_alloc | apply Kd.R_drewN | apply Kd.R_drew)); exact HO_6.out, by repeat (first | (with_reducible first | exact HI1.out | apply IsS65.alloc | apply IsS65.drewN | apply IsS65.drew | apply IsS65.set_0 | apply IsS65.set_1 | apply IsS65.set_2) | exact HI1.out), by repeat (first | (with_reducible first | exact HB.out | apply below_alloc | apply pw_below_drewN | apply below_drew1 | refine below_set ?_ (IsS65.ge HI1.out)) | exact HB.out), by repeat (first | (with_reducible first | exact HK.out | apply KeepBut.set_ | apply keep_drewN | apply keep_drew | apply keep_alloc) | exact HK.out)⟩

/-- Parse, as the printed texts call it. -/
def edits_Parse.f (k : Nat) (a0 : ByteArray) : Option (List S42 × Int × Int) := (edits_ParseS.f k a0 a0 0 false).bind fun t => some (t.1, t.2.1, t.2.2.1)
theorem edits_Parse.calls (k : Nat) (a0 : ByteArray) (r1 : List S42) (r2 : Int) (r3 : Int) (w : World) (h : edits_Parse.f k a0 = some (r1, r2, r3)) :
    Calls Tryd.prog 12 #[.string a0] w fun e w' => ∃ v0_ : Value, e = .returned (.tuple #[v0_, .int .i64 r2, .int .i64 r3]) ∧ Kd.R k42 42 w' w.heap.size (fun _ => True) v0_ r1 ∧ Below w.heap.size w w' := by
  obtain ⟨⟨t1, t2, t3, t4, t5, t6⟩, ht, h⟩ := Option.bind_eq_some_iff.1 h
  simp only [Option.some.injEq, Prod.mk.injEq] at h
  obtain ⟨rfl, rfl, rfl⟩ := h
  refine (edits_ParseS.callsS k a0 _ _ _ _ _ _ w ht).mono ?_
  rintro e w' ⟨wB, gB, v0_, hz, he, hr, hi, hb, hk⟩
  exact ⟨v0_, he, Kd.R_lower hr hz.size, hb⟩
end Go.Proofs.YtaihajmdngoeiaaDoor.F

namespace Go.Proofs.YtaihajmdngoeiaaDoor.Q
open Go.RowKit Go.Proofs.YtaihajmdngoeiaaDoorW.PrintWords Go.Proofs.YtaihajmdngoeiaaDoorW.PrintLast Go.Proofs.YtaihajmdngoeiaaDoorW.PrintMore
open Go.Proofs.YtaihajmdngoeiaaDoor.F
set_option linter.unusedVariables false
set_option linter.unusedSimpArgs false

def toS (e : Int × Int × List Int) : S42 := ⟨e.1, e.2.1, strOfNums e.2.2⟩
def resP (s : ByteArray) (out : List S42) : PR → List S42 × Int × Int
  | .ok es => (out ++ es.map toS, 0, 0)
  | .many r => ([], 2, plc s r)
  | .bad r => ([], 12, plc s r)
theorem resP_cons (s : ByteArray) (out : List S42) (e : Int × Int × List Int) (x : PR) : resP s out (x.cons e) = resP s (out ++ [toS e]) x := by
  cases x with
  | ok es => simp [resP, PR.cons]
  | many r => rfl
  | bad r => rfl
theorem line_shorter (l : List Int) (e : Int × Int × List Int) (r : List Int) (h : lineL l = .ok e r) : r.length < l.length := by
  obtain ⟨a, b, t⟩ := e
  have hx := (line_read l a b t r h).1
  have hp := lineE_pos (a, b, t)
  unfold lineE at hp
  simp only at hp
  rw [hx, List.length_append]
  omega
/-- What the text is read as. -/
def parsed (s : ByteArray) : List S42 × Int × Int := resP s [] (parseL (s.size + 1) 65536 (bytesOf s))
theorem lineL_eq2 (l : List Int) : lineL l = (takeL 44 .start l).then fun a l => (takeL 32 .start l).then fun b l => (quotB l).then fun t l => (byteL 10 l).then fun _ l => .ok (a, b, t) l := by
  unfold lineL quotB
  congr 1
  funext a l
  congr 1
  funext b l
  cases byteL 34 l with
  | bad r => rfl
  | ok u r => rfl
theorem scan_line (s : ByteArray) (hs : s.size ≤ 140737488351232) (p : Nat) (h : p ≤ s.size) :
    ∃ (v1 q1 : Int) (b1 : Bool) (v2 q2 : Int) (b2 : Bool) (t : ByteArray) (q3 : Int) (b3 : Bool) (q4 : Int) (b4 : Bool),
      (∃ K, ∀ k, K ≤ k → edits_scanner_number.f k s (p : Int) false 44 = some (v1, s, q1, b1) ∧ edits_scanner_number.f k s q1 b1 32 = some (v2, s, q2, b2) ∧ edits_scanner_quoted.f k s q2 b2 = some (t, s, q3, b3)) ∧
      edits_scanner_byte.f s q3 b3 10 = some (s, q4, b4) ∧ (q4, b4) = after s (lineL ((bytesOf s).drop p)) ∧ (∀ e r, lineL ((bytesOf s).drop p) = .ok e r → (⟨v1, v2, t⟩ : S42) = toS e) := by
  rw [lineL_eq2]
  obtain ⟨v1, ⟨K1, hK1⟩, hv1⟩ := number_is s hs 44 (by omega) p h
  cases h1 : takeL 44 .start ((bytesOf s).drop p) with
  | bad x =>
    rw [h1] at hK1
    obtain ⟨K2, hK2⟩ := number_bad s (plc s x) 32
    obtain ⟨K3, hK3⟩ := quoted_bad s (plc s x)
    exact ⟨v1, plc s x, true, 0, plc s x, true, strOfNums [], plc s x, true, plc s x, true, ⟨max K1 (max K2 K3), fun k hk => ⟨hK1 k (by omega), hK2 k (by omega), hK3 k (by omega)⟩⟩, byte_bad _ _ _, rfl, fun e r h => by cases h⟩
  | ok a x =>
    rw [h1] at hK1
    have ev1 := hv1 a x h1
    obtain ⟨q, hq, rfl⟩ := suf_of (takeL_good 44 _) s p a x h h1
    simp only [after, plc_dr s q hq] at hK1
    obtain ⟨v2, ⟨K2, hK2⟩, hv2⟩ := number_is s hs 32 (by omega) q hq
    simp only [Res.then]
    cases h2 : takeL 32 .start ((bytesOf s).drop q) with
    | bad x =>
      rw [h2] at hK2
      obtain ⟨K3, hK3⟩ := quoted_bad s (plc s x)
      exact ⟨v1, (q : Int), false, v2, plc s x, true, strOfNums [], plc s x, true, plc s x, true, ⟨max K1 (max K2 K3), fun k hk => ⟨hK1 k (by omega), hK2 k (by omega), hK3 k (by omega)⟩⟩, byte_bad _ _ _, rfl, fun e r h => by cases h⟩
    | ok b x =>
      rw [h2] at hK2
      have ev2 := hv2 b x h2
      obtain ⟨q', hq', rfl⟩ := suf_of (takeL_good 32 _) s q b x hq h2
      simp only [after, plc_dr s q' hq'] at hK2
      obtain ⟨t, ⟨K3, hK3⟩, hv3⟩ := quoted_is s hs q' hq'
      simp only []
      cases h3 : quotB ((bytesOf s).drop q') with
      | bad x =>
        rw [h3] at hK3
        exact ⟨v1, (q : Int), false, v2, (q' : Int), false, t, plc s x, true, plc s x, true, ⟨max K1 (max K2 K3), fun k hk => ⟨hK1 k (by omega), hK2 k (by omega), hK3 k (by omega)⟩⟩, byte_bad _ _ _, rfl, fun e r h => by cases h⟩
      | ok u x =>
        rw [h3] at hK3
        have ev3 := hv3 u x h3
        obtain ⟨q'', hq'', rfl⟩ := suf_of quotB_good s q' u x hq' h3
        simp only [after, plc_dr s q'' hq''] at hK3
        have hb := byte_is s hs q'' hq'' 10
        simp only []
        refine ⟨v1, (q : Int), false, v2, (q' : Int), false, t, (q'' : Int), false, _, _, ⟨max K1 (max K2 K3), fun k hk => ⟨hK1 k (by omega), hK2 k (by omega), hK3 k (by omega)⟩⟩, hb, ?_, ?_⟩
        · cases byteL 10 ((bytesOf s).drop q'') with
          | bad x => rfl
          | ok w x => rfl
        · intro e r h
          cases h4 : byteL 10 ((bytesOf s).drop q'') with
          | bad x => rw [h4] at h; cases h
          | ok w x =>
            rw [h4] at h
            simp only [] at h
            injection h with h _
            rw [← h, ev1, ev2, ev3]
            rfl
theorem progP (s : ByteArray) (hs : s.size ≤ 140737488351232) : ∀ (kf m p : Nat) (out : List S42), p ≤ s.size → s.size - p < kf → out.length + m = 65536 →
    ∃ (x : ByteArray) (y : Int) (z : Bool), Ev (fun k => edits_ParseS.l0 k s out s (p : Int) false) ((resP s out (parseL kf m ((bytesOf s).drop p))).1, (resP s out (parseL kf m ((bytesOf s).drop p))).2.1, (resP s out (parseL kf m ((bytesOf s).drop p))).2.2, x, y, z)
  | 0, m, p, out, _, h, _ => by omega
  | kf + 1, m, p, out, h1, h2, h3 => by
    by_cases hlt : p < s.size
    · have A1 : ((p : Int) < (s.size : Int)) = True := eq_true (by omega)
      have A3 : (out.length < 4398046511104) = True := eq_true (by omega)
      have plcp := plc_dr s p h1
      have hne : (bytesOf s).drop p ≠ [] := by
        intro e
        have := dr_len s p
        rw [e] at this
        simp at this
        omega
      simp only [parseL]
      rw [if_neg hne]
      by_cases hm : m = 0
      · have A2 : ((out.length : Int) = 65536) = True := eq_true (by omega)
        rw [if_pos hm]
        refine ⟨s, (p : Int), false, ⟨1, fun k hk => ?_⟩⟩
        obtain ⟨k, rfl⟩ : ∃ m, k = m + 1 := ⟨k - 1, by omega⟩
        simp only [edits_ParseS.l0, A1, A2, if_true, resP, plcp]
      · have A2 : ((out.length : Int) = 65536) = False := eq_false (by omega)
        rw [if_neg hm]
        obtain ⟨v1, q1, b1, v2, q2, b2, t, q3, b3, q4, b4, ⟨K, hK⟩, hb, ha, he⟩ := scan_line s hs p h1
        have step : ∀ k, K ≤ k → edits_ParseS.l0 (k + 1) s out s (p : Int) false = (if b4 = true then some (([] : List S42), 12, q4, s, q4, b4) else edits_ParseS.l0 k s (out ++ [(⟨v1, v2, t⟩ : S42)]) s q4 b4) := by
          intro k hk
          obtain ⟨g1, g2, g3⟩ := hK k hk
          simp only [edits_ParseS.l0, A1, A2, if_true, if_false]
          rw [g1]
          simp only [Option.bind_some]
          rw [g2]
          simp only [Option.bind_some]
          rw [g3]
          simp only [Option.bind_some]
          rw [hb]
          simp only [Option.bind_some, A3, if_true]
        cases hl : lineL ((bytesOf s).drop p) with
        | bad x =>
          rw [hl] at ha
          simp only [after, Prod.mk.injEq] at ha
          obtain ⟨rfl, rfl⟩ := ha
          refine ⟨s, plc s x, true, ⟨K + 1, fun k hk => ?_⟩⟩
          obtain ⟨k, rfl⟩ : ∃ m, k = m + 1 := ⟨k - 1, by omega⟩
          refine (step k (by omega)).trans ?_
          rw [if_pos rfl]
          rfl
        | ok e x =>
          have hs1 := he e x hl
          rw [hl] at ha
          simp only [after, Prod.mk.injEq] at ha
          obtain ⟨rfl, rfl⟩ := ha
          have hsh := line_shorter _ _ _ hl
          rw [dr_len] at hsh
          obtain ⟨q, hq, rfl⟩ := suf_of lineL_good s p e x h1 hl
          rw [dr_len] at hsh
          obtain ⟨x', y', z', ⟨K2, hK2⟩⟩ := progP s hs kf (m - 1) q (out ++ [toS e]) hq (by omega) (by simp; omega)
          simp only [resP_cons]
          refine ⟨x', y', z', ⟨max K K2 + 1, fun k hk => ?_⟩⟩
          obtain ⟨k, rfl⟩ : ∃ m, k = m + 1 := ⟨k - 1, by omega⟩
          refine (step k (by omega)).trans ?_
          rw [if_neg (by simp), hs1, plc_dr s q hq]
          exact hK2 k (by omega)
    · have A1 : ((p : Int) < (s.size : Int)) = False := eq_false (by omega)
      refine ⟨s, (p : Int), false, ⟨1, fun k hk => ?_⟩⟩
      obtain ⟨k, rfl⟩ : ∃ m, k = m + 1 := ⟨k - 1, by omega⟩
      rw [List.drop_eq_nil_of_le (by rw [bytesOf_length]; omega)]
      simp only [edits_ParseS.l0, A1, if_false, parseL, if_true, resP, List.map_nil, List.append_nil]
theorem Parse_is (s : ByteArray) (hs : s.size ≤ 140737488351232) : Ev (fun k => edits_Parse.f k s) (parsed s) := by
  obtain ⟨x, y, z, ⟨K, hK⟩⟩ := progP s hs (s.size + 1) 65536 0 [] (by omega) (by omega) (by simp)
  refine ⟨K, fun k hk => ?_⟩
  have g := hK k hk
  simp only [List.drop_zero, Int.ofNat_zero] at g
  unfold edits_Parse.f edits_ParseS.f
  refine (congrArg (fun o => Option.bind o _) g).trans ?_
  rfl
end Go.Proofs.YtaihajmdngoeiaaDoor.Q

-- A text of this session's own program (wip/myprint.sh over a changed print tool): functions and their walks
namespace Go.Proofs.YtaihajmdngoeiaaDoor.F
open Go.RowKit Go.Proofs.YtaihajmdngoeiaaDoorW.PrintWords Go.Proofs.YtaihajmdngoeiaaDoorW.PrintLast Go.Proofs.YtaihajmdngoeiaaDoorW.PrintMore
attribute [local go_sem] max2_int min2_int max_two min_two max_three min_three max_four min_four   -- for this text's walks alone
set_option linter.unusedVariables false
set_option linter.unusedSimpArgs false

theorem eqA42 (d : Nat) (w : World) (x0 y0 : Int) (x1 y1 : Int) (x2 y2 : ByteArray) :
    (Op.equalIn (d + 2) 42 (.agg #[.int .i64 x0, .int .i64 x1, .string x2]) (.agg #[.int .i64 y0, .int .i64 y1, .string y2])).run Tryd.prog w = .ok (x0 == y0 && (x1 == y1 && (x2.toList == y2.toList))) w := by
  refine eqA_of Tryd.underlying42 (by kernel_rfl) ?_
  refine eqf_cons (by rfl) (by go_simp; rfl) (by go_simp; rfl) (by go_simp) ?_
  refine eqf_cons (by rfl) (by go_simp; rfl) (by go_simp; rfl) (by go_simp) ?_
  exact eqf_last (by rfl) (by go_simp; rfl) (by go_simp; rfl) (by go_simp)
end Go.Proofs.YtaihajmdngoeiaaDoor.F

-- A text of this session's own program (wip/myprint.sh over a changed print tool): functions and their walks
namespace Go.Proofs.YtaihajmdngoeiaaDoor.F
open Go.RowKit Go.Proofs.YtaihajmdngoeiaaDoorW.PrintWords Go.Proofs.YtaihajmdngoeiaaDoorW.PrintLast Go.Proofs.YtaihajmdngoeiaaDoorW.PrintMore
attribute [local go_sem] max2_int min2_int max_two min_two max_three min_three max_four min_four   -- for this text's walks alone
set_option linter.unusedVariables false
set_option linter.unusedSimpArgs false

attribute [local go_sem high] eqA42
/-! ### monikerplain_SameEdits: function 13 -/
def monikerplain_SameEdits.l0 : Nat → List (S42) → List (S42) → Int → Int → Option (Bool)
  | 0, _, _, _, _ => none
  | k + 1, x0, x1, x12, x13 => if x13 < x12 then (if 0 ≤ x13 then (if x13 < (x0.length : Int) then (if x13 < (x1.length : Int) then (if (!(((rd_T42 x0 x13).f0) == ((rd_T42 x1 x13).f0)) || (!(((rd_T42 x0 x13).f1) == ((rd_T42 x1 x13).f1)) || (!((((rd_T42 x0 x13).f2).toList) == (((rd_T42 x1 x13).f2).toList))))) = true then (some false) else (monikerplain_SameEdits.l0 k x0 x1 x12 (wrap64 (x13 + 1)))) else (none)) else (none)) else (none)) else (some true)
def monikerplain_SameEdits.f (k : Nat) (l0 : List (S42)) (l1 : List (S42)) : Option (Bool) := if (l0.length : Int) = (l1.length : Int) then (monikerplain_SameEdits.l0 k l0 l1 (l0.length : Int) 0) else (some false)
set_option maxHeartbeats 8000000 in
set_option maxRecDepth 100000 in
theorem monikerplain_SameEdits.calls (k : Nat) (A0 : Option Addr) (c0 : Nat) (l0 : List (S42)) (A1 : Option Addr) (c1 : Nat) (l1 : List (S42)) (r : Bool) (w : World) (hr0 : Kd.C k42 w A0 l0.length l0) (hc0 : l0.length ≤ c0) (hr1 : Kd.C k42 w A1 l1.length l1) (hc1 : l1.length ≤ c1) (h : monikerplain_SameEdits.f k l0 l1 = some r) :
    Calls Tryd.prog 13 #[.slice A0 l0.length c0, .slice A1 l1.length c1] w fun e w' => e = .returned (.bool r) ∧ Drawn0 w w' := by
  have hu42 := Tryd.underlying42
  have HR0 := Aside0.mk hr0
  have HC0 := Aside0.mk hc0
  clear hr0 hc0
  have HR1 := Aside0.mk hr1
  have HC1 := Aside0.mk hc1
  clear hr1 hc1
  have H : (if (l0.length : Int) = (l1.length : Int) then (monikerplain_SameEdits.l0 k l0 l1 (l0.length : Int) 0) else (some false)) = some r := h
  clear h
  by_cases c3 : (l0.length : Int) = (l1.length : Int)
  · rw [if_pos c3] at H
    have c3b0 : ((l0.length : Int) == (l1.length : Int)) = true := beq_iff_eq.mpr c3
    have c3b1 : ((l0.length : Int) != (l1.length : Int)) = false := bne_eq_false_iff_eq.mpr c3
    have c3b2 : (l0.length == l1.length) = true := by first | simpa using c3 | (simp at c3 ⊢; omega)
    clear c3
    have H' := Aside0.mk H
    clear H
    go_enter Tryd.func13, Tryd.ntmps13
    go_wp2
    repeat (go_quiet (fail); try go_wp2)
    go_loopg [13] k (fun kq v13 w' => ∃ (x13_1 : Int), v13 = .int .i64 x13_1 ∧ Aside0 (monikerplain_SameEdits.l0 kq l0 l1 (l0.length : Int) x13_1 = some r) ∧ Aside0 (kq ≤ k) ∧ Drawn0 w w')
    case atStart => exact ⟨(0), (by first | rfl | (simp; done) | (simp [*]; done)), H', ⟨Nat.le_refl _⟩, by repeat (first | exact Drawn0.refl _ | apply Drawn0.step)⟩
    case round =>
      clear H'
      try clear c1
      try clear p2
      try clear c3
      try clear c3b0
      try clear c3b1
      try clear c3b2
      obtain ⟨x13_1, rfl, HA, HK1, ⟨m1, rfl⟩⟩ := hrel
      cases gk with
      | zero => exact absurd HA.out (by simp [monikerplain_SameEdits.l0])
      | succ k1 =>
        have H := HA.out
        clear HA
        simp only [monikerplain_SameEdits.l0] at H
        by_cases c4 : x13_1 < (l0.length : Int)
        · rw [if_pos c4] at H
          have c4b0 : decide (x13_1 < (l0.length : Int)) = true := decide_eq_true c4
          clear c4
          by_cases c5 : 0 ≤ x13_1
          · rw [if_pos c5] at H
            have c5b0 : decide (0 ≤ x13_1) = true := decide_eq_true c5
            clear c5
            by_cases c6 : x13_1 < (l0.length : Int)
            · rw [if_pos c6] at H
              have c6b0 : decide (x13_1 < (l0.length : Int)) = true := decide_eq_true c6
              clear c6
              by_cases c7 : x13_1 < (l1.length : Int)
              · rw [if_pos c7] at H
                have c7b0 : decide (x13_1 < (l1.length : Int)) = true := decide_eq_true c7
                clear c7
                by_cases c8 : (!(((rd_T42 l0 x13_1).f0) == ((rd_T42 l1 x13_1).f0)) || (!(((rd_T42 l0 x13_1).f1) == ((rd_T42 l1 x13_1).f1)) || (!((((rd_T42 l0 x13_1).f2).toList) == (((rd_T42 l1 x13_1).f2).toList))))) = true
                · rw [if_pos c8] at H
                  have c8b0 : (!(((rd_T42 l0 x13_1).f0) == ((rd_T42 l1 x13_1).f0)) || (!(((rd_T42 l0 x13_1).f1) == ((rd_T42 l1 x13_1).f1)) || (!((((rd_T42 l0 x13_1).f2).toList) == (((rd_T42 l1 x13_1).f2).toList))))) = true := c8
                  clear c8
                  obtain rfl := Option.some.inj H
                  have p163 : 0 ≤ (x13_1 : Int) := of_decide_eq_true (by first | (with_reducible assumption) | assumption)
                  have q163 : x13_1 < (l0.length : Int) := of_decide_eq_true (by first | (with_reducible assumption) | assumption)
                  obtain ⟨ad163, e163, hx163_0, hx163_1, hx163_2⟩ := at_T42 HR0.out x13_1 p163 q163
                  cases e163
                  replace p163 := eq_true p163
                  replace q163 := eq_true q163
                  have p164 : 0 ≤ (x13_1 : Int) := of_decide_eq_true (by first | (with_reducible assumption) | assumption)
                  have q164 : x13_1 < (l1.length : Int) := of_decide_eq_true (by first | (with_reducible assumption) | assumption)
                  obtain ⟨ad164, e164, hx164_0, hx164_1, hx164_2⟩ := at_T42 HR1.out x13_1 p164 q164
                  cases e164
                  replace p164 := eq_true p164
                  replace q164 := eq_true q164
                  go_wp2
                  repeat (go_quiet (fail); try go_wp2)
                  go_ret
                  exact ⟨by first | rfl | (simp; done) | (simp [*]; done), by repeat (first | exact Drawn0.refl _ | apply Drawn0.step)⟩
                · rw [if_neg c8] at H
                  have c8b0 : (!(((rd_T42 l0 x13_1).f0) == ((rd_T42 l1 x13_1).f0)) || (!(((rd_T42 l0 x13_1).f1) == ((rd_T42 l1 x13_1).f1)) || (!((((rd_T42 l0 x13_1).f2).toList) == (((rd_T42 l1 x13_1).f2).toList))))) = false := by simpa using c8
                  clear c8
                  have H' := Aside0.mk H
                  clear H
                  have p163 : 0 ≤ (x13_1 : Int) := of_decide_eq_true (by first | (with_reducible assumption) | assumption)
                  have q163 : x13_1 < (l0.length : Int) := of_decide_eq_true (by first | (with_reducible assumption) | assumption)
                  obtain ⟨ad163, e163, hx163_0, hx163_1, hx163_2⟩ := at_T42 HR0.out x13_1 p163 q163
                  cases e163
                  replace p163 := eq_true p163
                  replace q163 := eq_true q163
                  have p164 : 0 ≤ (x13_1 : Int) := of_decide_eq_true (by first | (with_reducible assumption) | assumption)
                  have q164 : x13_1 < (l1.length : Int) := of_decide_eq_true (by first | (with_reducible assumption) | assumption)
                  obtain ⟨ad164, e164, hx164_0, hx164_1, hx164_2⟩ := at_T42 HR1.out x13_1 p164 q164
                  cases e164
                  replace p164 := eq_true p164
                  replace q164 := eq_true q164
                  go_wp2
                  repeat (go_quiet (fail); try go_wp2)
                  go_roundg k1
                  case measure => have := HK1.out; omega
                  case rel => exact ⟨(wrap64 (x13_1 + 1)), (by first | rfl | (simp; done) | (simp [*]; done)), H', ⟨by have := HK1.out; omega⟩, by repeat (first | exact Drawn0.refl _ | apply Drawn0.step)⟩
              · rw [if_neg c7] at H
                exact absurd H (by simp)
            · rw [if_neg c6] at H
              exact absurd H (by simp)
          · rw [if_neg c5] at H
            exact absurd H (by simp)
        · rw [if_neg c4] at H
          have c4b0 : decide (x13_1 < (l0.length : Int)) = false := decide_eq_false c4
          clear c4
          obtain rfl := Option.some.inj H
          go_wp2
          repeat (go_quiet (fail); try go_wp2)
          go_ret
          exact ⟨by first | rfl | (simp; done) | (simp [*]; done), by repeat (first | exact Drawn0.refl _ | apply Drawn0.step)⟩
  · rw [if_neg c3] at H
    have c3b0 : ((l0.length : Int) == (l1.length : Int)) = false := beq_eq_false_iff_ne.mpr c3
    have c3b1 : ((l0.length : Int) != (l1.length : Int)) = true := bne_iff_ne.mpr c3
    have c3b2 : (l0.length == l1.length) = false := by first | simpa using c3 | (simp at c3 ⊢; omega)
    obtain rfl := Option.some.inj H
    go_enter Tryd.func13, Tryd.ntmps13
    go_wp2
    repeat (go_quiet (fail); try go_wp2)
    go_ret
    exact ⟨by first | rfl | (simp; done) | (simp [*]; done), by repeat (first | exact Drawn0.refl _ | apply Drawn0.step)⟩

end Go.Proofs.YtaihajmdngoeiaaDoor.F

namespace Go.Proofs.YtaihajmdngoeiaaDoor.Q
open Go.RowKit Go.Proofs.YtaihajmdngoeiaaDoorW.PrintWords Go.Proofs.YtaihajmdngoeiaaDoorW.PrintLast Go.Proofs.YtaihajmdngoeiaaDoorW.PrintMore
open Go.Proofs.YtaihajmdngoeiaaDoor.F

theorem same_loop (l : List S42) (hl : l.length ≤ 9223372036854775807) (d : Nat) : ∀ i, i ≤ l.length → l.length - i = d →
    Ev (fun k => monikerplain_SameEdits.l0 k l l (l.length : Int) (i : Int)) true := by
  induction d with
  | zero =>
    intro i h1 h2
    refine ⟨1, fun n hn => ?_⟩
    obtain ⟨k, rfl⟩ : ∃ m, n = m + 1 := ⟨n - 1, by omega⟩
    simp only [monikerplain_SameEdits.l0]
    rw [if_neg (by omega)]
  | succ d ih =>
    intro i h1 h2
    obtain ⟨K, hK⟩ := ih (i + 1) (by omega) (by omega)
    refine ⟨K + 1, fun n hn => ?_⟩
    obtain ⟨k, rfl⟩ : ∃ m, n = m + 1 := ⟨n - 1, by omega⟩
    simp only [monikerplain_SameEdits.l0]
    rw [if_pos (by omega), if_pos (by omega), if_pos (by omega), if_pos (by omega), if_neg (by simp), show wrap64 ((i : Int) + 1) = ((i + 1 : Nat) : Int) by unfold wrap64; omega]
    exact hK k (by omega)
theorem same_is (l : List S42) (hl : l.length ≤ 9223372036854775807) : Ev (fun k => monikerplain_SameEdits.f k l l) true := by
  unfold monikerplain_SameEdits.f
  simp only [↓reduceIte]
  exact same_loop l hl l.length 0 (by omega) (by omega)
end Go.Proofs.YtaihajmdngoeiaaDoor.Q

-- A text of this session's own program (wip/myprint.sh over a changed print tool): functions and their walks
namespace Go.Proofs.YtaihajmdngoeiaaDoor.F
open Go.RowKit Go.Proofs.YtaihajmdngoeiaaDoorW.PrintWords Go.Proofs.YtaihajmdngoeiaaDoorW.PrintLast Go.Proofs.YtaihajmdngoeiaaDoorW.PrintMore
attribute [local go_sem] max2_int min2_int max_two min_two max_three min_three max_four min_four   -- for this text's walks alone
set_option linter.unusedVariables false
set_option linter.unusedSimpArgs false

/-! ### monikerlaw1_EditsRound: function 4 -/
mutual
def monikerlaw1_EditsRound.j0 : Nat → ByteArray → Int → ByteArray → Bool → Option (Bool)
  | 0, _, _, _, _ => none
  | k + 1, x1, x2, x7, x36 => if x36 = true then (some false) else ((edits_Parse.f k x1).bind fun bt210 => (if bt210.2.1 = 0 then (if bt210.2.2 = 0 then ((edits_Print.f k bt210.1).bind fun t215 => (if t215.toList = x1.toList then (monikerlaw1_EditsRound.j1 k x2 x7 false) else (monikerlaw1_EditsRound.j1 k x2 x7 true))) else (monikerlaw1_EditsRound.j1 k x2 x7 true)) else (if (bt210.1.length : Int) = 0 then (if bt210.2.2 < 0 then (monikerlaw1_EditsRound.j1 k x2 x7 true) else (monikerlaw1_EditsRound.j1 k x2 x7 (decide (bt210.2.2 > (x1.size : Int))))) else (monikerlaw1_EditsRound.j1 k x2 x7 true))))
def monikerlaw1_EditsRound.j1 : Nat → Int → ByteArray → Bool → Option (Bool)
  | 0, _, _, _ => none
  | k + 1, x2, x7, x73 => if x73 = true then (some false) else (if x2 < 0 then (monikerlaw1_EditsRound.j2 k x2 x7 true) else (if x2 ≥ (x7.size : Int) then (monikerlaw1_EditsRound.j2 k x2 x7 true) else (if 0 ≤ (wrap64 ((x7.size : Int) - 1)) then (if (wrap64 ((x7.size : Int) - 1)) < (x7.size : Int) then (monikerlaw1_EditsRound.j2 k x2 x7 ((bt x7 (wrap64 ((x7.size : Int) - 1))) != 10)) else (none)) else (none))))
def monikerlaw1_EditsRound.j2 : Nat → Int → ByteArray → Bool → Option (Bool)
  | 0, _, _, _ => none
  | k + 1, x2, x7, x89 => if x89 = true then (some true) else (if 0 ≤ x2 then (if x2 ≤ (x7.size : Int) then ((edits_Parse.f k (x7.extract 0 (x2 : Int).toNat)).bind fun bt216 => (if x2 = 0 then (some (bt216.2.1 == 0)) else (if 0 ≤ (wrap64 (x2 - 1)) then (if (wrap64 (x2 - 1)) < (x7.size : Int) then (if (bt x7 (wrap64 (x2 - 1))) = 10 then (some (bt216.2.1 == 0)) else (if bt216.2.1 = 12 then (some (bt216.2.2 == x2)) else (some false))) else (none)) else (none)))) else (none)) else (none))
end
def monikerlaw1_EditsRound.f (k : Nat) (l0 : List (S42)) (a1 : ByteArray) (a2 : Int) : Option (Bool) := (edits_Print.f k l0).bind fun t203 => ((edits_Parse.f k t203).bind fun bt204 => (if (l0.length : Int) ≤ 65536 then (if bt204.2.1 = 0 then (if bt204.2.2 = 0 then ((monikerplain_SameEdits.f k bt204.1 l0).bind fun t209 => (monikerlaw1_EditsRound.j0 k a1 a2 t203 (!t209))) else (monikerlaw1_EditsRound.j0 k a1 a2 t203 true)) else (monikerlaw1_EditsRound.j0 k a1 a2 t203 true)) else (monikerlaw1_EditsRound.j0 k a1 a2 t203 false)))
set_option maxHeartbeats 8000000 in
set_option maxRecDepth 100000 in
theorem monikerlaw1_EditsRound.calls (k : Nat) (A0 : Option Addr) (c0 : Nat) (l0 : List (S42)) (a1 : ByteArray) (a2 : Int) (r : Bool) (w : World) (hr0 : Kd.C k42 w A0 l0.length l0) (hc0 : l0.length ≤ c0) (h : monikerlaw1_EditsRound.f k l0 a1 a2 = some r) (hs_ : SG w) :
    Calls Tryd.prog 4 #[.slice A0 l0.length c0, .string a1, .int .i64 a2] w fun e w' => e = .returned (.bool r) ∧ Below w.heap.size w w' := by
  have HR0 := Aside0.mk hr0
  have HC0 := Aside0.mk hc0
  clear hr0 hc0
  have HSG := Aside0.mk hs_
  clear hs_
  have HB := Aside0.mk (Below.refl w.heap.size w)
  have H : ((edits_Print.f k l0).bind fun t203 => ((edits_Parse.f k t203).bind fun bt204 => (if (l0.length : Int) ≤ 65536 then (if bt204.2.1 = 0 then (if bt204.2.2 = 0 then ((monikerplain_SameEdits.f k bt204.1 l0).bind fun t209 => (monikerlaw1_EditsRound.j0 k a1 a2 t203 (!t209))) else (monikerlaw1_EditsRound.j0 k a1 a2 t203 true)) else (monikerlaw1_EditsRound.j0 k a1 a2 t203 true)) else (monikerlaw1_EditsRound.j0 k a1 a2 t203 false)))) = some r := h
  clear h
  replace H := Option.bind_eq_some_iff.mp H
  obtain ⟨t203, A40, H⟩ := H
  replace H : ((edits_Parse.f k t203).bind fun bt204 => (if (l0.length : Int) ≤ 65536 then (if bt204.2.1 = 0 then (if bt204.2.2 = 0 then ((monikerplain_SameEdits.f k bt204.1 l0).bind fun t209 => (monikerlaw1_EditsRound.j0 k a1 a2 t203 (!t209))) else (monikerlaw1_EditsRound.j0 k a1 a2 t203 true)) else (monikerlaw1_EditsRound.j0 k a1 a2 t203 true)) else (monikerlaw1_EditsRound.j0 k a1 a2 t203 false))) = some r := H
  have A4 := Aside0.mk A40
  clear A40
  replace H := Option.bind_eq_some_iff.mp H
  obtain ⟨⟨t204, t205, t206⟩, A50, H⟩ := H
  replace H : (if (l0.length : Int) ≤ 65536 then (if t205 = 0 then (if t206 = 0 then ((monikerplain_SameEdits.f k t204 l0).bind fun t209 => (monikerlaw1_EditsRound.j0 k a1 a2 t203 (!t209))) else (monikerlaw1_EditsRound.j0 k a1 a2 t203 true)) else (monikerlaw1_EditsRound.j0 k a1 a2 t203 true)) else (monikerlaw1_EditsRound.j0 k a1 a2 t203 false)) = some r := H
  have A5 := Aside0.mk A50
  clear A50
  have HC6 := Aside0.mk H
  clear H
  go_enter Tryd.func4, Tryd.ntmps4
  go_upto_region 3 with (first | ((with_reducible refine gate_callee (f := 9) rfl ?_); refine goesL_ (some 13) rfl rfl Tryd.func9 (by kernel_rfl) rfl #[.slice A0 l0.length c0] rfl (by (try simp only [List.map_toArray, List.map_cons, List.map_nil]); first | done | rfl | (simp only [List.length_drop, List.length_take]; rfl)) ?_; (with_reducible refine (edits_Print.calls k _ _ l0 t203 _ ?side1 ?side2 A4.out (SG.below HSG.out (by repeat (first | (with_reducible first | exact HB.out | apply below_alloc | apply pw_below_drewN | apply below_drew1) | exact HB.out)))).mono ?_); (case side1 => repeat (first | exact HR0.out | (with_reducible refine Kd.C_alloc ?_ _) | (with_reducible refine Kd.C_drewN ?_ _) | (with_reducible refine Kd.C_drew ?_))); (case side2 => exact HC0.out); rintro e w7 ⟨rfl, hb⟩; refine ⟨_, rfl, ?_⟩; have n0_ := Aside0.mk (below_step (by repeat (first | (with_reducible first | exact HB.out | apply below_alloc | apply pw_below_drewN | apply below_drew1) | exact HB.out)) hb); clear HB; have HB := n0_; clear n0_; (try clear hb); (try clear hb2); (try clear hk); (try clear hi)) | ((with_reducible refine gate_callee (f := 12) rfl ?_); refine goesL_ (some 16) rfl rfl Tryd.func12 (by kernel_rfl) rfl #[.string t203] rfl (by (try simp only [List.map_toArray, List.map_cons, List.map_nil]); first | done | rfl | (simp only [List.length_drop, List.length_take]; rfl)) ?_; (with_reducible refine (edits_Parse.calls k t203 t204 t205 t206 _ A5.out).mono ?_); rintro e w8 ⟨v207, rfl, ho0, hb⟩; refine ⟨_, rfl, ?_⟩; have n0_ := Aside0.mk (Kd.R_lower ho0 (below_size (by repeat (first | (with_reducible first | exact HB.out | apply below_alloc | apply pw_below_drewN | apply below_drew1) | exact HB.out)))); have n1_ := Aside0.mk (below_step (by repeat (first | (with_reducible first | exact HB.out | apply below_alloc | apply pw_below_drewN | apply below_drew1) | exact HB.out)) hb); clear HB; have HO208 := n0_; have HB := n1_; clear n0_ n1_; (try clear hb); (try clear hb2); (try clear hk); (try clear hi); (try clear ho0)))
  (try simp only [Act.put, List.setIfInBounds_toArray, List.set_cons_zero, List.set_cons_succ])
  go_cut [36] (fun v36 wc => ∃ (kq : Nat) (x36_5 : Bool), v36 = .bool x36_5 ∧ Aside0 (monikerlaw1_EditsRound.j0 kq a1 a2 t203 x36_5 = some r) ∧ Aside0 (kq ≤ k) ∧ Aside0 (Below w.heap.size w wc))
  case first =>
    have H := HC6.out
    clear HC6
    by_cases c9 : (l0.length : Int) ≤ 65536
    · rw [if_pos c9] at H
      have c9b0 : decide ((l0.length : Int) ≤ 65536) = true := decide_eq_true c9
      have c9b1 : decide (l0.length ≤ 65536) = true := decide_eq_true (by omega)
      clear c9
      (first | rw [c9b0] | (simp only [i64_w, i32_w]; rw [c9b0]) | skip)
      by_cases c10 : t205 = 0
      · rw [if_pos c10] at H
        have c10b0 : (t205 == 0) = true := beq_iff_eq.mpr c10
        have c10b1 : (t205 != 0) = false := bne_eq_false_iff_eq.mpr c10
        clear c10
        by_cases c11 : t206 = 0
        · rw [if_pos c11] at H
          have c11b0 : (t206 == 0) = true := beq_iff_eq.mpr c11
          have c11b1 : (t206 != 0) = false := bne_eq_false_iff_eq.mpr c11
          clear c11
          replace H := Option.bind_eq_some_iff.mp H
          obtain ⟨t209, A120, H⟩ := H
          replace H : (monikerlaw1_EditsRound.j0 k a1 a2 t203 (!t209)) = some r := H
          have A12 := Aside0.mk A120
          clear A120
          have H' := Aside0.mk H
          clear H
          obtain ⟨Ao13, co13, eo13⟩ := Kd.R_slice HO208.out
          subst eo13
          go_wp2_with (first | (go_at_call 13; (with_reducible refine (monikerplain_SameEdits.calls k _ _ t204 _ _ l0 t209 _ ?side1 ?side2 ?side3 ?side4 A12.out).mono ?_); (case side1 => repeat (first | exact (Kd.R_reads' HO208.out).2.2 | (with_reducible refine Kd.C_alloc ?_ _) | (with_reducible refine Kd.C_drewN ?_ _) | (with_reducible refine Kd.C_drew ?_))); (case side2 => exact (Kd.R_reads' HO208.out).2.1); (case side3 => repeat (first | exact (Kd.C_below HR0.out HB.out) | (with_reducible refine Kd.C_alloc ?_ _) | (with_reducible refine Kd.C_drewN ?_ _) | (with_reducible refine Kd.C_drew ?_))); (case side4 => exact HC0.out); rintro e w' ⟨rfl, ⟨nd, rfl⟩⟩))
          go_meet
          case rel => exact ⟨_, (!t209), (by first | rfl | (simp; done) | (simp [*]; done)), H', ⟨by first | omega | exact Nat.le_refl _⟩, ⟨by repeat (first | (with_reducible first | exact HB.out | apply below_alloc | apply pw_below_drewN | apply below_drew1) | exact HB.out)⟩⟩
        · rw [if_neg c11] at H
          have c11b0 : (t206 == 0) = false := beq_eq_false_iff_ne.mpr c11
          have c11b1 : (t206 != 0) = true := bne_iff_ne.mpr c11
          have H' := Aside0.mk H
          clear H
          go_wp2
          go_meet
          case rel => exact ⟨_, (true), (by first | rfl | (simp; done) | (simp [*]; done)), H', ⟨by first | omega | exact Nat.le_refl _⟩, ⟨by repeat (first | (with_reducible first | exact HB.out | apply below_alloc | apply pw_below_drewN | apply below_drew1) | exact HB.out)⟩⟩
      · rw [if_neg c10] at H
        have c10b0 : (t205 == 0) = false := beq_eq_false_iff_ne.mpr c10
        have c10b1 : (t205 != 0) = true := bne_iff_ne.mpr c10
        have H' := Aside0.mk H
        clear H
        go_wp2
        go_meet
        case rel => exact ⟨_, (true), (by first | rfl | (simp; done) | (simp [*]; done)), H', ⟨by first | omega | exact Nat.le_refl _⟩, ⟨by repeat (first | (with_reducible first | exact HB.out | apply below_alloc | apply pw_below_drewN | apply below_drew1) | exact HB.out)⟩⟩
    · rw [if_neg c9] at H
      have c9b0 : decide ((l0.length : Int) ≤ 65536) = false := decide_eq_false c9
      have c9b1 : decide (l0.length ≤ 65536) = false := decide_eq_false (by omega)
      clear c9
      (first | rw [c9b0] | (simp only [i64_w, i32_w]; rw [c9b0]) | skip)
      have H' := Aside0.mk H
      clear H
      go_wp2
      go_meet
      case rel => exact ⟨_, (false), (by first | rfl | (simp; done) | (simp [*]; done)), H', ⟨by first | omega | exact Nat.le_refl _⟩, ⟨by repeat (first | (with_reducible first | exact HB.out | apply below_alloc | apply pw_below_drewN | apply below_drew1) | exact HB.out)⟩⟩
  case rest =>
    clear HC6
    try clear c1
    try clear p2
    try clear c4
    try clear c9
    try clear c9b0
    try clear c9b1
    try clear c10
    try clear c10b0
    try clear c10b1
    try clear c11
    try clear c11b0
    try clear c11b1
    try clear c12
    obtain ⟨kq, x36_5, rfl, HA, HJ5, HB⟩ := hcut
    cases kq with
    | zero => exact absurd HA.out (by simp [monikerlaw1_EditsRound.j0])
    | succ kj5 =>
      have H := HA.out
      clear HA
      simp only [monikerlaw1_EditsRound.j0] at H
      by_cases c14 : x36_5 = true
      · subst c14
        have H1 : (some false) = some r := by rw [if_pos rfl] at H; exact H
        clear H
        have H := H1
        clear H1
        obtain rfl := Option.some.inj H
        go_wp2
        go_ret
        exact ⟨by first | rfl | (simp [errW_none, errW_some] <;> rfl) | (simp [*, errW_none, errW_some] <;> rfl), by repeat (first | (with_reducible first | exact HB.out | apply below_alloc | apply pw_below_drewN | apply below_drew1) | exact HB.out)⟩
      · replace c14 := Bool.eq_false_iff.mpr c14
        subst c14
        have H1 : ((edits_Parse.f kj5 a1).bind fun bt210 => (if bt210.2.1 = 0 then (if bt210.2.2 = 0 then ((edits_Print.f kj5 bt210.1).bind fun t215 => (if t215.toList = a1.toList then (monikerlaw1_EditsRound.j1 kj5 a2 t203 false) else (monikerlaw1_EditsRound.j1 kj5 a2 t203 true))) else (monikerlaw1_EditsRound.j1 kj5 a2 t203 true)) else (if (bt210.1.length : Int) = 0 then (if bt210.2.2 < 0 then (monikerlaw1_EditsRound.j1 kj5 a2 t203 true) else (monikerlaw1_EditsRound.j1 kj5 a2 t203 (decide (bt210.2.2 > (a1.size : Int))))) else (monikerlaw1_EditsRound.j1 kj5 a2 t203 true)))) = some r := by rw [if_neg (show ¬ (false = true) by decide)] at H; exact H
        clear H
        have H := H1
        clear H1
        replace H := Option.bind_eq_some_iff.mp H
        obtain ⟨⟨t210, t211, t212⟩, A150, H⟩ := H
        replace H : (if t211 = 0 then (if t212 = 0 then ((edits_Print.f kj5 t210).bind fun t215 => (if t215.toList = a1.toList then (monikerlaw1_EditsRound.j1 kj5 a2 t203 false) else (monikerlaw1_EditsRound.j1 kj5 a2 t203 true))) else (monikerlaw1_EditsRound.j1 kj5 a2 t203 true)) else (if (t210.length : Int) = 0 then (if t212 < 0 then (monikerlaw1_EditsRound.j1 kj5 a2 t203 true) else (monikerlaw1_EditsRound.j1 kj5 a2 t203 (decide (t212 > (a1.size : Int))))) else (monikerlaw1_EditsRound.j1 kj5 a2 t203 true))) = some r := H
        have A15 := Aside0.mk A150
        clear A150
        have HC16 := Aside0.mk H
        clear H
        go_upto_region 6 with (first | ((with_reducible refine gate_callee (f := 12) rfl ?_); refine goesL_ (some 39) rfl rfl Tryd.func12 (by kernel_rfl) rfl #[.string a1] rfl (by (try simp only [List.map_toArray, List.map_cons, List.map_nil]); first | done | rfl | (simp only [List.length_drop, List.length_take]; rfl)) ?_; (with_reducible refine (edits_Parse.calls kj5 a1 t210 t211 t212 _ A15.out).mono ?_); rintro e w17 ⟨v213, rfl, ho0, hb⟩; refine ⟨_, rfl, ?_⟩; have n0_ := Aside0.mk (Kd.R_lower ho0 (below_size (by repeat (first | (with_reducible first | exact HB.out | apply below_alloc | apply pw_below_drewN | apply below_drew1) | exact HB.out)))); have n1_ := Aside0.mk (below_step (by repeat (first | (with_reducible first | exact HB.out | apply below_alloc | apply pw_below_drewN | apply below_drew1) | exact HB.out)) hb); clear HB; have HO214 := n0_; have HB := n1_; clear n0_ n1_; (try clear hb); (try clear hb2); (try clear hk); (try clear hi); (try clear ho0)))
        (try simp only [Act.put, List.setIfInBounds_toArray, List.set_cons_zero, List.set_cons_succ])
        go_cut [73] (fun v73 wc => ∃ (kq : Nat) (x73_15 : Bool), v73 = .bool x73_15 ∧ Aside0 (monikerlaw1_EditsRound.j1 kq a2 t203 x73_15 = some r) ∧ Aside0 (kq ≤ kj5) ∧ Aside0 (Below w.heap.size w wc))
        case first =>
          have H := HC16.out
          clear HC16
          by_cases c18 : t211 = 0
          · rw [if_pos c18] at H
            have c18b0 : (t211 == 0) = true := beq_iff_eq.mpr c18
            have c18b1 : (t211 != 0) = false := bne_eq_false_iff_eq.mpr c18
            clear c18
            (first | rw [c18b0] | (simp only [i64_w, i32_w]; rw [c18b0]) | skip)
            by_cases c19 : t212 = 0
            · rw [if_pos c19] at H
              have c19b0 : (t212 == 0) = true := beq_iff_eq.mpr c19
              have c19b1 : (t212 != 0) = false := bne_eq_false_iff_eq.mpr c19
              clear c19
              replace H := Option.bind_eq_some_iff.mp H
              obtain ⟨t215, A200, H⟩ := H
              replace H : (if t215.toList = a1.toList then (monikerlaw1_EditsRound.j1 kj5 a2 t203 false) else (monikerlaw1_EditsRound.j1 kj5 a2 t203 true)) = some r := H
              have A20 := Aside0.mk A200
              clear A200
              by_cases c21 : t215.toList = a1.toList
              · rw [if_pos c21] at H
                have c21b0 : (t215.toList == a1.toList) = true := beq_iff_eq.mpr c21
                have c21b1 : (t215.toList != a1.toList) = false := bne_eq_false_iff_eq.mpr c21
                clear c21
                have H' := Aside0.mk H
                clear H
                obtain ⟨Ao22, co22, eo22⟩ := Kd.R_slice HO214.out
                subst eo22
                go_wp2_with (first | (go_at_call 9; (with_reducible refine (edits_Print.calls kj5 _ _ t210 t215 _ ?side1 ?side2 A20.out (SG.below HSG.out (by repeat (first | (with_reducible first | exact HB.out | apply below_alloc | apply pw_below_drewN | apply below_drew1) | exact HB.out)))).mono ?_); (case side1 => repeat (first | exact (Kd.R_reads' HO214.out).2.2 | (with_reducible refine Kd.C_alloc ?_ _) | (with_reducible refine Kd.C_drewN ?_ _) | (with_reducible refine Kd.C_drew ?_))); (case side2 => exact (Kd.R_reads' HO214.out).2.1); rintro e w23 ⟨rfl, hb⟩; have n0_ := Aside0.mk (Kd.R_below (by (with_reducible repeat (first | apply Kd.R_alloc | apply Kd.R_drewN | apply Kd.R_drew)); exact HO214.out) hb); have n1_ := Aside0.mk (below_step (by repeat (first | (with_reducible first | exact HB.out | apply below_alloc | apply pw_below_drewN | apply below_drew1) | exact HB.out)) hb); clear HO214; clear HB; have HO214 := n0_; have HB := n1_; clear n0_ n1_; (try clear hb); (try clear hb2); (try clear hk); (try clear hi)))
                go_meet
                case rel => exact ⟨_, (false), (by first | rfl | (simp; done) | (simp [*]; done)), H', ⟨by have := HJ5.out; first | omega | exact Nat.le_refl _⟩, ⟨by repeat (first | (with_reducible first | exact HB.out | apply below_alloc | apply pw_below_drewN | apply below_drew1) | exact HB.out)⟩⟩
              · rw [if_neg c21] at H
                have c21b0 : (t215.toList == a1.toList) = false := beq_eq_false_iff_ne.mpr c21
                have c21b1 : (t215.toList != a1.toList) = true := bne_iff_ne.mpr c21
                have H' := Aside0.mk H
                clear H
                obtain ⟨Ao24, co24, eo24⟩ := Kd.R_slice HO214.out
                subst eo24
                go_wp2_with (first | (go_at_call 9; (with_reducible refine (edits_Print.calls kj5 _ _ t210 t215 _ ?side1 ?side2 A20.out (SG.below HSG.out (by repeat (first | (with_reducible first | exact HB.out | apply below_alloc | apply pw_below_drewN | apply below_drew1) | exact HB.out)))).mono ?_); (case side1 => repeat (first | exact (Kd.R_reads' HO214.out).2.2 | (with_reducible refine Kd.C_alloc ?_ _) | (with_reducible refine Kd.C_drewN ?_ _) | (with_reducible refine Kd.C_drew ?_))); (case side2 => exact (Kd.R_reads' HO214.out).2.1); rintro e w25 ⟨rfl, hb⟩; have n0_ := Aside0.mk (Kd.R_below (by (with_reducible repeat (first | apply Kd.R_alloc | apply Kd.R_drewN | apply Kd.R_drew)); exact HO214.out) hb); have n1_ := Aside0.mk (below_step (by repeat (first | (with_reducible first | exact HB.out | apply below_alloc | apply pw_below_drewN | apply below_drew1) | exact HB.out)) hb); clear HO214; clear HB; have HO214 := n0_; have HB := n1_; clear n0_ n1_; (try clear hb); (try clear hb2); (try clear hk); (try clear hi)))
                go_meet
                case rel => exact ⟨_, (true), (by first | rfl | (simp; done) | (simp [*]; done)), H', ⟨by have := HJ5.out; first | omega | exact Nat.le_refl _⟩, ⟨by repeat (first | (with_reducible first | exact HB.out | apply below_alloc | apply pw_below_drewN | apply below_drew1) | exact HB.out)⟩⟩
            · rw [if_neg c19] at H
              have c19b0 : (t212 == 0) = false := beq_eq_false_iff_ne.mpr c19
              have c19b1 : (t212 != 0) = true := bne_iff_ne.mpr c19
              have H' := Aside0.mk H
              clear H
              go_wp2
              go_meet
              case rel => exact ⟨_, (true), (by first | rfl | (simp; done) | (simp [*]; done)), H', ⟨by have := HJ5.out; first | omega | exact Nat.le_refl _⟩, ⟨by repeat (first | (with_reducible first | exact HB.out | apply below_alloc | apply pw_below_drewN | apply below_drew1) | exact HB.out)⟩⟩
          · rw [if_neg c18] at H
            have c18b0 : (t211 == 0) = false := beq_eq_false_iff_ne.mpr c18
            have c18b1 : (t211 != 0) = true := bne_iff_ne.mpr c18
            (first | rw [c18b0] | (simp only [i64_w, i32_w]; rw [c18b0]) | skip)
            by_cases c26 : (t210.length : Int) = 0
            · rw [if_pos c26] at H
              have c26b0 : ((t210.length : Int) == 0) = true := beq_iff_eq.mpr c26
              have c26b1 : ((t210.length : Int) != 0) = false := bne_eq_false_iff_eq.mpr c26
              clear c26
              by_cases c27 : t212 < 0
              · rw [if_pos c27] at H
                have c27b0 : decide (t212 < 0) = true := decide_eq_true c27
                clear c27
                have H' := Aside0.mk H
                clear H
                obtain ⟨Ao28, co28, eo28⟩ := Kd.R_slice HO214.out
                subst eo28
                go_wp2
                go_meet
                case rel => exact ⟨_, (true), (by first | rfl | (simp; done) | (simp [*]; done)), H', ⟨by have := HJ5.out; first | omega | exact Nat.le_refl _⟩, ⟨by repeat (first | (with_reducible first | exact HB.out | apply below_alloc | apply pw_below_drewN | apply below_drew1) | exact HB.out)⟩⟩
              · rw [if_neg c27] at H
                have c27b0 : decide (t212 < 0) = false := decide_eq_false c27
                clear c27
                have H' := Aside0.mk H
                clear H
                obtain ⟨Ao29, co29, eo29⟩ := Kd.R_slice HO214.out
                subst eo29
                go_wp2
                go_meet
                case rel => exact ⟨_, (decide (t212 > (a1.size : Int))), (by first | rfl | (simp; done) | (simp [*]; done)), H', ⟨by have := HJ5.out; first | omega | exact Nat.le_refl _⟩, ⟨by repeat (first | (with_reducible first | exact HB.out | apply below_alloc | apply pw_below_drewN | apply below_drew1) | exact HB.out)⟩⟩
            · rw [if_neg c26] at H
              have c26b0 : ((t210.length : Int) == 0) = false := beq_eq_false_iff_ne.mpr c26
              have c26b1 : ((t210.length : Int) != 0) = true := bne_iff_ne.mpr c26
              have c26b2 : ¬ (t210 = []) := fun h_ => c26 (by rw [h_]; rfl)
              have H' := Aside0.mk H
              clear H
              obtain ⟨Ao30, co30, eo30⟩ := Kd.R_slice HO214.out
              subst eo30
              go_wp2
              go_meet
              case rel => exact ⟨_, (true), (by first | rfl | (simp; done) | (simp [*]; done)), H', ⟨by have := HJ5.out; first | omega | exact Nat.le_refl _⟩, ⟨by repeat (first | (with_reducible first | exact HB.out | apply below_alloc | apply pw_below_drewN | apply below_drew1) | exact HB.out)⟩⟩
        case rest =>
          clear HC16
          try clear c1
          try clear c2
          try clear p2
          try clear c4
          try clear c9
          try clear c9b0
          try clear c9b1
          try clear c10
          try clear c10b0
          try clear c10b1
          try clear c11
          try clear c11b0
          try clear c11b1
          try clear c12
          try clear c14
          try clear c18
          try clear c18b0
          try clear c18b1
          try clear c19
          try clear c19b0
          try clear c19b1
          try clear c21
          try clear c21b0
          try clear c21b1
          try clear c26
          try clear c26b0
          try clear c26b1
          try clear c26b2
          try clear c27
          try clear c27b0
          try clear p2
          obtain ⟨kq, x73_15, rfl, HA, HJ15, HB⟩ := hcut
          cases kq with
          | zero => exact absurd HA.out (by simp [monikerlaw1_EditsRound.j1])
          | succ kj15 =>
            have H := HA.out
            clear HA
            simp only [monikerlaw1_EditsRound.j1] at H
            by_cases c31 : x73_15 = true
            · subst c31
              have H1 : (some false) = some r := by rw [if_pos rfl] at H; exact H
              clear H
              have H := H1
              clear H1
              obtain rfl := Option.some.inj H
              go_wp2
              go_ret
              exact ⟨by first | rfl | (simp [errW_none, errW_some] <;> rfl) | (simp [*, errW_none, errW_some] <;> rfl), by repeat (first | (with_reducible first | exact HB.out | apply below_alloc | apply pw_below_drewN | apply below_drew1) | exact HB.out)⟩
            · replace c31 := Bool.eq_false_iff.mpr c31
              subst c31
              have H1 : (if a2 < 0 then (monikerlaw1_EditsRound.j2 kj15 a2 t203 true) else (if a2 ≥ (t203.size : Int) then (monikerlaw1_EditsRound.j2 kj15 a2 t203 true) else (if 0 ≤ (wrap64 ((t203.size : Int) - 1)) then (if (wrap64 ((t203.size : Int) - 1)) < (t203.size : Int) then (monikerlaw1_EditsRound.j2 kj15 a2 t203 ((bt t203 (wrap64 ((t203.size : Int) - 1))) != 10)) else (none)) else (none)))) = some r := by rw [if_neg (show ¬ (false = true) by decide)] at H; exact H
              clear H
              have H := H1
              clear H1
              have HC32 := Aside0.mk H
              clear H
              go_upto_region 8 with (fail)
              go_cut [89] (fun v89 wc => ∃ (kq : Nat) (x89_31 : Bool), v89 = .bool x89_31 ∧ Aside0 (monikerlaw1_EditsRound.j2 kq a2 t203 x89_31 = some r) ∧ Aside0 (kq ≤ kj15) ∧ Aside0 (Below w.heap.size w wc))
              case first =>
                have H := HC32.out
                clear HC32
                by_cases c33 : a2 < 0
                · rw [if_pos c33] at H
                  have c33b0 : decide (a2 < 0) = true := decide_eq_true c33
                  clear c33
                  (first | rw [c33b0] | (simp only [i64_w, i32_w]; rw [c33b0]) | skip)
                  have H' := Aside0.mk H
                  clear H
                  go_wp2
                  go_meet
                  case rel => exact ⟨_, (true), (by first | rfl | (simp; done) | (simp [*]; done)), H', ⟨by have := HJ5.out; have := HJ15.out; first | omega | exact Nat.le_refl _⟩, ⟨by repeat (first | (with_reducible first | exact HB.out | apply below_alloc | apply pw_below_drewN | apply below_drew1) | exact HB.out)⟩⟩
                · rw [if_neg c33] at H
                  have c33b0 : decide (a2 < 0) = false := decide_eq_false c33
                  clear c33
                  (first | rw [c33b0] | (simp only [i64_w, i32_w]; rw [c33b0]) | skip)
                  by_cases c34 : a2 ≥ (t203.size : Int)
                  · rw [if_pos c34] at H
                    have c34b0 : decide ((t203.size : Int) ≤ a2) = true := decide_eq_true c34
                    clear c34
                    have H' := Aside0.mk H
                    clear H
                    go_wp2
                    go_meet
                    case rel => exact ⟨_, (true), (by first | rfl | (simp; done) | (simp [*]; done)), H', ⟨by have := HJ5.out; have := HJ15.out; first | omega | exact Nat.le_refl _⟩, ⟨by repeat (first | (with_reducible first | exact HB.out | apply below_alloc | apply pw_below_drewN | apply below_drew1) | exact HB.out)⟩⟩
                  · rw [if_neg c34] at H
                    have c34b0 : decide ((t203.size : Int) ≤ a2) = false := decide_eq_false c34
                    clear c34
                    obtain ⟨ji35, hji35⟩ : ∃ j_ : Int, (wrap64 ((t203.size : Int) - 1)) = j_ := ⟨_, rfl⟩
                    replace H : (if 0 ≤ (ji35) then (if (ji35) < (t203.size : Int) then (monikerlaw1_EditsRound.j2 kj15 a2 t203 ((bt t203 (ji35)) != 10)) else (none)) else (none)) = some r := by first | (rw [hji35] at H; exact H) | (simp only [hji35] at H ⊢; exact H)
                    have hji35w : (IntKind.i64.wrap ((t203.size : Int) - 1)) = ji35 := (i64_w _).trans hji35
                    by_cases c36 : 0 ≤ (ji35)
                    · rw [if_pos c36] at H
                      have c36b0 : decide (0 ≤ (ji35)) = true := decide_eq_true c36
                      clear c36
                      by_cases c37 : (ji35) < (t203.size : Int)
                      · rw [if_pos c37] at H
                        have c37b0 : decide ((ji35) < (t203.size : Int)) = true := decide_eq_true c37
                        clear c37
                        have H' := Aside0.mk H
                        clear H
                        have p38 : 0 ≤ ((ji35) : Int) := of_decide_eq_true (by first | (with_reducible assumption) | assumption)
                        have q38 : (ji35) < (t203.size : Int) := of_decide_eq_true (by first | (with_reducible assumption) | assumption)
                        have hx38 := bt_at t203 (ji35)
                        replace p38 := eq_true p38
                        replace q38 := eq_true q38
                        go_wp2
                        go_meet
                        case rel => exact ⟨_, (((bt t203 (ji35)) != 10)), (by first | rfl | (simp; done) | (simp only [← hji35] <;> (first | rfl | simp)) | (simp [*]; done)), H', ⟨by have := HJ5.out; have := HJ15.out; first | omega | exact Nat.le_refl _⟩, ⟨by repeat (first | (with_reducible first | exact HB.out | apply below_alloc | apply pw_below_drewN | apply below_drew1) | exact HB.out)⟩⟩
                      · rw [if_neg c37] at H
                        exact absurd H (by simp)
                    · rw [if_neg c36] at H
                      exact absurd H (by simp)
              case rest =>
                clear HC32
                try clear c1
                try clear c2
                try clear p2
                try clear c3
                try clear p3
                try clear q3
                try clear hx3
                try clear c4
                try clear p6
                try clear c9
                try clear c9b0
                try clear c9b1
                try clear c10
                try clear c10b0
                try clear c10b1
                try clear c11
                try clear c11b0
                try clear c11b1
                try clear c12
                try clear c14
                try clear c18
                try clear c18b0
                try clear c18b1
                try clear c19
                try clear c19b0
                try clear c19b1
                try clear c21
                try clear c21b0
                try clear c21b1
                try clear c26
                try clear c26b0
                try clear c26b1
                try clear c26b2
                try clear c27
                try clear c27b0
                try clear c31
                try clear c33
                try clear c33b0
                try clear c34
                try clear c34b0
                try clear c36
                try clear c36b0
                try clear c37
                try clear c37b0
                try clear p38
                try clear q38
                try clear hx38
                try clear p2
                try clear p38
                try clear q38
                obtain ⟨kq, x89_31, rfl, HA, HJ31, HB⟩ := hcut
                cases kq with
                | zero => exact absurd HA.out (by simp [monikerlaw1_EditsRound.j2])
                | succ kj31 =>
                  have H := HA.out
                  clear HA
                  simp only [monikerlaw1_EditsRound.j2] at H
                  by_cases c39 : x89_31 = true
                  · subst c39
                    have H1 : (some true) = some r := by rw [if_pos rfl] at H; exact H
                    clear H
                    have H := H1
                    clear H1
                    obtain rfl := Option.some.inj H
                    go_wp2
                    go_ret
                    exact ⟨by first | rfl | (simp [errW_none, errW_some] <;> rfl) | (simp [*, errW_none, errW_some] <;> rfl), by repeat (first | (with_reducible first | exact HB.out | apply below_alloc | apply pw_below_drewN | apply below_drew1) | exact HB.out)⟩
                  · replace c39 := Bool.eq_false_iff.mpr c39
                    subst c39
                    have H1 : (if 0 ≤ a2 then (if a2 ≤ (t203.size : Int) then ((edits_Parse.f kj31 (t203.extract 0 (a2 : Int).toNat)).bind fun bt216 => (if a2 = 0 then (some (bt216.2.1 == 0)) else (if 0 ≤ (wrap64 (a2 - 1)) then (if (wrap64 (a2 - 1)) < (t203.size : Int) then (if (bt t203 (wrap64 (a2 - 1))) = 10 then (some (bt216.2.1 == 0)) else (if bt216.2.1 = 12 then (some (bt216.2.2 == a2)) else (some false))) else (none)) else (none)))) else (none)) else (none)) = some r := by rw [if_neg (show ¬ (false = true) by decide)] at H; exact H
                    clear H
                    have H := H1
                    clear H1
                    by_cases c40 : 0 ≤ a2
                    · rw [if_pos c40] at H
                      have c40b0 := eq_true c40
                      have c40b1 : decide (0 ≤ a2) = true := decide_eq_true c40
                      clear c40
                      by_cases c41 : a2 ≤ (t203.size : Int)
                      · rw [if_pos c41] at H
                        have c41b0 := eq_true c41
                        have c41b1 : decide (a2 ≤ (t203.size : Int)) = true := decide_eq_true c41
                        clear c41
                        replace H := Option.bind_eq_some_iff.mp H
                        obtain ⟨⟨t216, t217, t218⟩, A420, H⟩ := H
                        replace H : (if a2 = 0 then (some (t217 == 0)) else (if 0 ≤ (wrap64 (a2 - 1)) then (if (wrap64 (a2 - 1)) < (t203.size : Int) then (if (bt t203 (wrap64 (a2 - 1))) = 10 then (some (t217 == 0)) else (if t217 = 12 then (some (t218 == a2)) else (some false))) else (none)) else (none))) = some r := H
                        have A42 := Aside0.mk A420
                        clear A420
                        by_cases c43 : a2 = 0
                        · rw [if_pos c43] at H
                          have c43b0 : (a2 == 0) = true := beq_iff_eq.mpr c43
                          have c43b1 : (a2 != 0) = false := bne_eq_false_iff_eq.mpr c43
                          clear c43
                          obtain rfl := Option.some.inj H
                          go_wp2_with (first | ((with_reducible refine gate_callee (f := 12) rfl ?_); refine goesL_ (some 94) rfl rfl Tryd.func12 (by kernel_rfl) rfl #[.string (t203.extract 0 (a2 : Int).toNat)] rfl (by (try simp only [List.map_toArray, List.map_cons, List.map_nil]); first | done | rfl | (simp only [List.length_drop, List.length_take]; rfl)) ?_; (with_reducible refine (edits_Parse.calls kj31 (t203.extract 0 (a2 : Int).toNat) t216 t217 t218 _ A42.out).mono ?_); rintro e w44 ⟨v219, rfl, ho0, hb⟩; refine ⟨_, rfl, ?_⟩; have n0_ := Aside0.mk (Kd.R_lower ho0 (below_size (by repeat (first | (with_reducible first | exact HB.out | apply below_alloc | apply pw_below_drewN | apply below_drew1) | exact HB.out)))); have n1_ := Aside0.mk (below_step (by repeat (first | (with_reducible first | exact HB.out | apply below_alloc | apply pw_below_drewN | apply below_drew1) | exact HB.out)) hb); clear HB; have HO220 := n0_; have HB := n1_; clear n0_ n1_; (try clear hb); (try clear hb2); (try clear hk); (try clear hi); (try clear ho0)))
                          go_ret
                          exact ⟨by first | rfl | (simp [errW_none, errW_some] <;> rfl) | (simp [*, errW_none, errW_some] <;> rfl), by repeat (first | (with_reducible first | exact HB.out | apply below_alloc | apply pw_below_drewN | apply below_drew1) | exact HB.out)⟩
                        · rw [if_neg c43] at H
                          have c43b0 : (a2 == 0) = false := beq_eq_false_iff_ne.mpr c43
                          have c43b1 : (a2 != 0) = true := bne_iff_ne.mpr c43
                          obtain ⟨ji45, hji45⟩ : ∃ j_ : Int, (wrap64 (a2 - 1)) = j_ := ⟨_, rfl⟩
                          replace H : (if 0 ≤ (ji45) then (if (ji45) < (t203.size : Int) then (if (bt t203 (ji45)) = 10 then (some (t217 == 0)) else (if t217 = 12 then (some (t218 == a2)) else (some false))) else (none)) else (none)) = some r := by first | (rw [hji45] at H; exact H) | (simp only [hji45] at H ⊢; exact H)
                          (try rw [hji45] at A42)
                          have hji45w : (IntKind.i64.wrap (a2 - 1)) = ji45 := (i64_w _).trans hji45
                          by_cases c46 : 0 ≤ (ji45)
                          · rw [if_pos c46] at H
                            have c46b0 : decide (0 ≤ (ji45)) = true := decide_eq_true c46
                            clear c46
                            by_cases c47 : (ji45) < (t203.size : Int)
                            · rw [if_pos c47] at H
                              have c47b0 : decide ((ji45) < (t203.size : Int)) = true := decide_eq_true c47
                              clear c47
                              by_cases c49 : (bt t203 (ji45)) = 10
                              · rw [if_pos c49] at H
                                have c49b0 : ((bt t203 (ji45)) == 10) = true := beq_iff_eq.mpr c49
                                have c49b1 : ((bt t203 (ji45)) != 10) = false := bne_eq_false_iff_eq.mpr c49
                                clear c49
                                obtain rfl := Option.some.inj H
                                go_wp2_with (first | ((with_reducible refine gate_callee (f := 12) rfl ?_); refine goesL_ (some 94) rfl rfl Tryd.func12 (by kernel_rfl) rfl #[.string (t203.extract 0 (a2 : Int).toNat)] rfl (by (try simp only [List.map_toArray, List.map_cons, List.map_nil]); first | done | rfl | (simp only [List.length_drop, List.length_take]; rfl)) ?_; (with_reducible refine (edits_Parse.calls kj31 (t203.extract 0 (a2 : Int).toNat) t216 t217 t218 _ A42.out).mono ?_); rintro e w50 ⟨v219, rfl, ho0, hb⟩; refine ⟨_, rfl, ?_⟩; have n0_ := Aside0.mk (Kd.R_lower ho0 (below_size (by repeat (first | (with_reducible first | exact HB.out | apply below_alloc | apply pw_below_drewN | apply below_drew1) | exact HB.out)))); have n1_ := Aside0.mk (below_step (by repeat (first | (with_reducible first | exact HB.out | apply below_alloc | apply pw_below_drewN | apply below_drew1) | exact HB.out)) hb); clear HB; have HO220 := n0_; have HB := n1_; clear n0_ n1_; (try clear hb); (try clear hb2); (try clear hk); (try clear hi); (try clear ho0); have p48 : 0 ≤ ((ji45) : Int) := of_decide_eq_true (by first | (with_reducible assumption) | assumption); have q48 : (ji45) < (t203.size : Int) := of_decide_eq_true (by first | (with_reducible assumption) | assumption); have hx48 := bt_at t203 (ji45); replace p48 := eq_true p48; replace q48 := eq_true q48))
                                go_ret
                                exact ⟨by first | rfl | (simp [errW_none, errW_some] <;> rfl) | (simp only [← hji45]; first | rfl | (simp [errW_none, errW_some] <;> rfl)) | (simp [*, errW_none, errW_some] <;> rfl), by repeat (first | (with_reducible first | exact HB.out | apply below_alloc | apply pw_below_drewN | apply below_drew1) | exact HB.out)⟩
                              · rw [if_neg c49] at H
                                have c49b0 : ((bt t203 (ji45)) == 10) = false := beq_eq_false_iff_ne.mpr c49
                                have c49b1 : ((bt t203 (ji45)) != 10) = true := bne_iff_ne.mpr c49
                                by_cases c51 : t217 = 12
                                · rw [if_pos c51] at H
                                  have c51b0 : (t217 == 12) = true := beq_iff_eq.mpr c51
                                  have c51b1 : (t217 != 12) = false := bne_eq_false_iff_eq.mpr c51
                                  clear c51
                                  obtain rfl := Option.some.inj H
                                  go_wp2_with (first | ((with_reducible refine gate_callee (f := 12) rfl ?_); refine goesL_ (some 94) rfl rfl Tryd.func12 (by kernel_rfl) rfl #[.string (t203.extract 0 (a2 : Int).toNat)] rfl (by (try simp only [List.map_toArray, List.map_cons, List.map_nil]); first | done | rfl | (simp only [List.length_drop, List.length_take]; rfl)) ?_; (with_reducible refine (edits_Parse.calls kj31 (t203.extract 0 (a2 : Int).toNat) t216 t217 t218 _ A42.out).mono ?_); rintro e w52 ⟨v219, rfl, ho0, hb⟩; refine ⟨_, rfl, ?_⟩; have n0_ := Aside0.mk (Kd.R_lower ho0 (below_size (by repeat (first | (with_reducible first | exact HB.out | apply below_alloc | apply pw_below_drewN | apply below_drew1) | exact HB.out)))); have n1_ := Aside0.mk (below_step (by repeat (first | (with_reducible first | exact HB.out | apply below_alloc | apply pw_below_drewN | apply below_drew1) | exact HB.out)) hb); clear HB; have HO220 := n0_; have HB := n1_; clear n0_ n1_; (try clear hb); (try clear hb2); (try clear hk); (try clear hi); (try clear ho0); have p48 : 0 ≤ ((ji45) : Int) := of_decide_eq_true (by first | (with_reducible assumption) | assumption); have q48 : (ji45) < (t203.size : Int) := of_decide_eq_true (by first | (with_reducible assumption) | assumption); have hx48 := bt_at t203 (ji45); replace p48 := eq_true p48; replace q48 := eq_true q48))
                                  go_ret
                                  exact ⟨by first | rfl | (simp [errW_none, errW_some] <;> rfl) | (simp only [← hji45]; first | rfl | (simp [errW_none, errW_some] <;> rfl)) | (simp [*, errW_none, errW_some] <;> rfl), by repeat (first | (with_reducible first | exact HB.out | apply below_alloc | apply pw_below_drewN | apply below_drew1) | exact HB.out)⟩
                                · rw [if_neg c51] at H
                                  have c51b0 : (t217 == 12) = false := beq_eq_false_iff_ne.mpr c51
                                  have c51b1 : (t217 != 12) = true := bne_iff_ne.mpr c51
                                  obtain rfl := Option.some.inj H
                                  go_wp2_with (first | ((with_reducible refine gate_callee (f := 12) rfl ?_); refine goesL_ (some 94) rfl rfl Tryd.func12 (by kernel_rfl) rfl #[.string (t203.extract 0 (a2 : Int).toNat)] rfl (by (try simp only [List.map_toArray, List.map_cons, List.map_nil]); first | done | rfl | (simp only [List.length_drop, List.length_take]; rfl)) ?_; (with_reducible refine (edits_Parse.calls kj31 (t203.extract 0 (a2 : Int).toNat) t216 t217 t218 _ A42.out).mono ?_); rintro e w53 ⟨v219, rfl, ho0, hb⟩; refine ⟨_, rfl, ?_⟩; have n0_ := Aside0.mk (Kd.R_lower ho0 (below_size (by repeat (first | (with_reducible first | exact HB.out | apply below_alloc | apply pw_below_drewN | apply below_drew1) | exact HB.out)))); have n1_ := Aside0.mk (below_step (by repeat (first | (with_reducible first | exact HB.out | apply below_alloc | apply pw_below_drewN | apply below_drew1) | exact HB.out)) hb); clear HB; have HO220 := n0_; have HB := n1_; clear n0_ n1_; (try clear hb); (try clear hb2); (try clear hk); (try clear hi); (try clear ho0); have p48 : 0 ≤ ((ji45) : Int) := of_decide_eq_true (by first | (with_reducible assumption) | assumption); have q48 : (ji45) < (t203.size : Int) := of_decide_eq_true (by first | (with_reducible assumption) | assumption); have hx48 := bt_at t203 (ji45); replace p48 := eq_true p48; replace q48 := eq_true q48))
                                  go_ret
                                  exact ⟨by first | rfl | (simp [errW_none, errW_some] <;> rfl) | (simp only [← hji45]; first | rfl | (simp [errW_none, errW_some] <;> rfl)) | (simp [*, errW_none, errW_some] <;> rfl), by repeat (first | (with_reducible first | exact HB.out | apply below_alloc | apply pw_below_drewN | apply below_drew1) | exact HB.out)⟩
                            · rw [if_neg c47] at H
                              exact absurd H (by simp)
                          · rw [if_neg c46] at H
                            exact absurd H (by simp)
                      · rw [if_neg c41] at H
                        exact absurd H (by simp)
                    · rw [if_neg c40] at H
                      exact absurd H (by simp)

end Go.Proofs.YtaihajmdngoeiaaDoor.F
